import PyProof.Rows.All
import HandS.HeadEnd
import HandS.Head2
import Wide.All
import OpenK.AllK
import Wide.FinOn
import KE.KStateDown
import Lean
import HandS.ForMost
import HandS.More
import HandS.Conv
import HandS.Codes
import HandS.IsInst
import HandS.FStr
import HandS.Style
import HandS.TupAny
import HandS.Wide
import HandS.Flow
import HandS.Defaults
import HandS.WordsExc
import HandS.Head0
import HandS.Head1
import HandS.HeadHook1
import HandS.HeadHook2
import HandS.HeadHook3
import PyProof.Rows.MatchSeqLen
import KE.KExcSuper
import HandS.ExcInit
import HandS.ExcSuper
import HandS.ExcField
import HandS.MakeKwOnly
import HandS.ExcCtx
import HandS.SuiteRaise
import HandS.DictComp
import HandS.DictTup
import HandS.Small
import HandS.Slots
import HandS.SlotsOwn
import KE.KSortTupAny
import KE.KDictSum
import PyProof.DictMoreH
import HandS.HeadHook4
import HandS.HeadNt
import KE.KIsAll
import HandS.ExcIs
import HandS.GenOver
import HandS.GenList
import HandS.Set
import HandS.SetBool
import HandS.Strs
import HandS.SetFor
import KE.KDictKeyed
import HandS.TupLen
import KE.SortData
import HandS.Iter
import HandS.DeepEq
import KE.KEqNest
import HandS.WordsDict
import HandS.CallLocal
import HandS.Star
import HandS.TupMul
import PySem.Challenge.RW_modlink_k35_renamings_refused
open _root_.List renaming not_mem_nil→Ya,length_map→Yb,length_append→Yc,length_cons→Yd,mem_singleton→Ye,mem_cons_of_mem→Yf,mem_cons_self→Yg,mem_append→Yh,length_nil→Yi,mem_of_getElem?→Yj,getElem?_eq_some_iff→Yk,map_append→Yl,getElem?_map→Ym,mem_cons→Yn,mem_append_left→Yo,mem_append_right→Yp,mem_map→Yq,map_cons→Yr,append_assoc→Ys,take_length→Yt,length_take→Yu,mem_map_of_mem→Yv,getElem?_eq_getElem→Yw,map_map→Yx,forall_mem_cons→Yy,flatMap_cons→Yz,getElem?_of_mem→YA,cons_append→YB
open PySem.W renaming Frag→YC
open PySem renaming wpAny_bind→YD,FuncData→YE,Addr→YF,Program→YG,World→YH,Value→YI,Shared→YJ,Stmt→YK,wpAny_pure→YL,sizeLine→YM
open PySem.Heap renaming get?_push_of_some→YN,get?_push_size→YO
open PySem.Str renaming ofString→YP
open _root_.Nat renaming le_refl→YQ,zero_le→YR,ne_of_lt→YS
open L2 renaming pa_cons→YT,tVar→YU,tCons→YV,defScope→YW,pa_nil→YX,pss_cons→YY,pss_one→YZ,pss_nil→Y0,tNil→Y1,defBody→Y2,defArgs→Y3,pe_int→Y4,pe_str→Y5,gName→Y6,ix_seq→Y7,pt_cmpR→Y8,ps_ret→Y9,upd_same→Y_,tSeq→Xb,FnScope→Xc,nomark→Xd,tTest→Xe,ps_expr→Xf,pe_ix→Xg,inClass→Xh,tFld→Xi,tRet→Xj,tIfS→Xk,tMeth→Xl,tAsg→Xm,FnOk→Xn,tCall→Xo,tDrop→Xp,tNext→Xq,pe_callB→Xr
set_option Elab.async false
set_option linter.all false
set_option maxRecDepth 100000
set_option maxHeartbeats 0
section
open PySem PySem.W PySem.Calls PyProof.Rows
theorem M.fin_open(h:(OpenLaw.row PySem.Challenge.rw_modlink_k35_renamings_refused).wellSaid=true→(OpenLaw.row PySem.Challenge.rw_modlink_k35_renamings_refused).Holds):PySem.Challenge.rw_modlink_k35_renamings_refused.Holds:=by
 w_on; o_law
 exact h (by assumption)
theorem M.fin_ok:(chainsOk (view (OpenLaw.row PySem.Challenge.rw_modlink_k35_renamings_refused).prog [51]) && opensWell (OpenLaw.row PySem.Challenge.rw_modlink_k35_renamings_refused).prog && (frees (OpenLaw.row PySem.Challenge.rw_modlink_k35_renamings_refused).toRowW && (OpenLaw.row PySem.Challenge.rw_modlink_k35_renamings_refused).within.isEmpty))=true:=by decide +kernel
theorem M.fin_e:opening (OpenLaw.row PySem.Challenge.rw_modlink_k35_renamings_refused).prog=plainProg (OpenLaw.row PySem.Challenge.rw_modlink_k35_renamings_refused).prog.main.scope.names:=by kernel_rfl
theorem M.fin_f(s:YJ):fenceModules? (OpenLaw.row PySem.Challenge.rw_modlink_k35_renamings_refused).prog s=some s:=by kernel_rfl
theorem M.fin_d:defOf (view (OpenLaw.row PySem.Challenge.rw_modlink_k35_renamings_refused).prog [51]) (OpenLaw.row PySem.Challenge.rw_modlink_k35_renamings_refused).name=some (HandSHeadRun.topDef (OpenLaw.row PySem.Challenge.rw_modlink_k35_renamings_refused).prog 51,[]):=by kernel_rfl
theorem M.fin_p:(OpenLaw.row PySem.Challenge.rw_modlink_k35_renamings_refused).prog.theDef (OpenLaw.row PySem.Challenge.rw_modlink_k35_renamings_refused).name=some ((HandSHeadRun.topDef (OpenLaw.row PySem.Challenge.rw_modlink_k35_renamings_refused).prog 51).params,(HandSHeadRun.topDef (OpenLaw.row PySem.Challenge.rw_modlink_k35_renamings_refused).prog 51).body,(HandSHeadRun.topDef (OpenLaw.row PySem.Challenge.rw_modlink_k35_renamings_refused).prog 51).scope):=by kernel_rfl
theorem M.fin_k:kwWritten? (HandSHeadRun.topDef (OpenLaw.row PySem.Challenge.rw_modlink_k35_renamings_refused).prog 51).params.kwonlyargs (HandSHeadRun.topDef (OpenLaw.row PySem.Challenge.rw_modlink_k35_renamings_refused).prog 51).params.kw_defaults=some []:=by kernel_rfl
theorem M.fin_n:(HandSHeadRun.topDef (OpenLaw.row PySem.Challenge.rw_modlink_k35_renamings_refused).prog 51).name=("law" : PySem.Str):=by kernel_rfl
theorem M.fin_b:(OpenLaw.row PySem.Challenge.rw_modlink_k35_renamings_refused).prog.bare:=⟨rfl,rfl,rfl,rfl,rfl,by decide +kernel⟩
end
namespace M
open PySem PySem.Spec PyProof.Rows L2
structure Zb(S:List YF)(H H':Hp):Prop where
 obj:∀ b u,b∉S→H b=some u→H' b=some u
 tup:∀ b xs,H b=some (.tup xs)→H' b=some (.tup xs)
 frz:∀ b o u,H b=some (.frz o u)→H' b=some (.frz o u)
 dom:∀ b u,H b=some u→∃ u',H' b=some u'
theorem Zb.refl(S:List YF)(H:Hp):Zb S H H:=⟨fun _ _ _ e=>e,fun _ _ e=>e,fun _ _ _ e=>e,fun _ u e=>⟨u,e⟩⟩
theorem Zb.trans{S:List YF}{H H1 H2:Hp}(a:Zb S H H1)(b:Zb S H1 H2):Zb S H H2 :=
 ⟨fun c u n e=>b.obj c u n (a.obj c u n e),fun c xs e=>b.tup c xs (a.tup c xs e),fun c o u e=>b.frz c o u (a.frz c o u e),fun c u e=>let ⟨_,e1⟩:=a.dom c u e; b.dom c _ e1⟩
theorem Zb.mono{S T:List YF}{H H1:Hp}(a:Zb S H H1)(h:∀ b∈S,b∈T):Zb T H H1 :=
 ⟨fun c u n e=>a.obj c u (fun z=>n (h c z)) e,a.tup,a.frz,a.dom⟩
theorem Zb.nil{T:List YF}{H H1:Hp}(a:Zb [] H H1):Zb T H H1:=a.mono (fun _ h=>nomatch h)
theorem Zb.step{S T:List YF}{H H1 H2:Hp}(a:Zb S H H1)(b:Zb T H1 H2)(h:∀ x∈T,x∈S∨H x=none):Zb S H H2:=by
 refine⟨fun c u n e=>b.obj c u (fun z=>?_) (a.obj c u n e),fun c xs e=>b.tup c xs (a.tup c xs e),fun c o u e=>b.frz c o u (a.frz c o u e),fun c u e=>let ⟨_,e1⟩:=a.dom c u e; b.dom c _ e1⟩
 rcases h c z with q | q
 ·exact n q
 ·rw[q]at e; cases e
theorem Zb.step0{S:List YF}{H H1 H2:Hp}(a:Zb S H H1)(b:Zb [] H1 H2):Zb S H H2:=a.step b (fun _ h=>nomatch h)
theorem Zb.step1{S:List YF}{H H1 H2:Hp}{l:YF}(a:Zb S H H1)(b:Zb [l] H1 H2)(h:H l=none):Zb S H H2:=a.step b (fun x m=>by simp at m; subst m; exact .inr h)
theorem Zb.back{S:List YF}{H H1 H2:Hp}(b:Zb S H1 H2)(a:Zb S H H1):Zb S H H2:=a.trans b
theorem Zb.back0{S:List YF}{H H1 H2:Hp}(b:Zb [] H1 H2)(a:Zb S H H1):Zb S H H2:=a.step0 b
theorem Zb.step1'{S:List YF}{H H1 H2:Hp}{l:YF}(a:Zb S H H1)(b:Zb [l] H1 H2):Zb (l :: S) H H2:=(a.mono (fun x m=>Yf _ m)).trans (b.mono (fun x m=>by simp at m; subst m; exact Yg))
structure KC(S:List YF)(H H':Hp):Prop where
 k:Zb S H H'
theorem Zb.new{H:Hp}{p:YF}{o:HO}(h:H p=none):Zb [] H (upd H p o):=by
 have z:∀ b u,H b=some u→upd H p o b=some u:=fun b u e=>by rw[upd_ne (ne_of_none e h)]; exact e
 exact⟨fun b u _ e=>z b u e,fun b xs e=>z b _ e,fun b o u e=>z b _ e,fun b u e=>⟨u,z b u e⟩⟩
theorem Zb.put{H:Hp}{l:YF}{o u:HO}(h:H l=some o)(m:Mut (some o)):Zb [l] H (upd H l u):=by
 have z:∀ b v,b≠l→H b=some v→upd H l u b=some v:=fun b v n e=>by rw[upd_ne n]; exact e
 refine⟨fun b v n e=>z b v (fun q=>n (by simp[q])) e,fun b xs e=>z b _ (fun q=>?_) e,fun b ob v e=>z b _ (fun q=>?_) e,fun b v e=>?_⟩
 ·rw[q,h]at e; cases e; exact m
 ·rw[q,h]at e; cases e; exact m
 ·by_cases q:b=l
  ·rw[q]; exact⟨u,Y_⟩
  ·exact⟨v,z b v q e⟩
theorem Zb.ne{S:List YF}{H H':Hp}(k:Zb S H H'){a p:YF}{u:HO}(h:H a=some u)(n:H' p=none):a≠p:=by
 rintro rfl
 obtain⟨u',e⟩:=k.dom a u h
 rw[n]at e; cases e
theorem Zb.free{S:List YF}{H H':Hp}(k:Zb S H H'){p:YF}(n:H' p=none):H p=none:=by
 cases q:H p with
 | none=>rfl
 | some u =>
   obtain⟨u',e⟩:=k.dom p u q
   rw[n]at e; cases e
theorem Zb.sqT{S:List YF}{K:YC}{H H':Hp}{a:YF}{xs:List V}(k:Zb S H H')(h:SqT K H a xs):SqT K H' a xs:=by
 rcases h with(h | ⟨o,h⟩) | h
 ·exact .inl (.inl (k.tup _ _ h))
 ·exact .inl (.inr ⟨o,k.frz _ _ _ h⟩)
 ·exact .inr h
theorem Zb.sqL{S:List YF}{K:YC}{H H':Hp}{a:YF}{xs:List V}(k:Zb S H H')(n:a∉S)(h:SqL K H a xs):SqL K H' a xs:=by
 rcases h with(h | ⟨o,h⟩) | h
 ·exact .inl (.inl (k.obj _ _ n h))
 ·exact .inl (.inr ⟨o,k.frz _ _ _ h⟩)
 ·exact .inr h
mutual
inductive Im (K:YC) (H:Hp):V→PyData→Prop
 | non:Im K H .non .none
 | bl (b:Bool):Im K H (.bl b) (.bool b)
 | int (i:Int):Im K H (.int i) (.int i)
 | str (x:Str):Im K H (.str x) (.str x)
 | tup {a:YF} {xs:List V} {ds:List PyData}:SqT K H a xs→ImAll K H xs ds→Im K H (.ref a) (.tuple ds)
inductive ImAll (K:YC) (H:Hp):List V→List PyData→Prop
 | nil:ImAll K H [] []
 | cons {v:V} {vs:List V} {d:PyData} {ds:List PyData}:Im K H v d→ImAll K H vs ds→ImAll K H (v :: vs) (d :: ds)
end
section
variable {K:YC} {S:List YF} {H H':Hp}
mutual
theorem Im.mono(k:Zb S H H'):∀ {v:V} {d:PyData},Im K H v d→Im K H' v d
 | _,_,.non=>.non
 | _,_,.bl b=>.bl b
 | _,_,.int i=>.int i
 | _,_,.str x=>.str x
 | _,_,.tup h a=>.tup (k.sqT h) (ImAll.mono k a)
theorem ImAll.mono(k:Zb S H H'):∀ {vs:List V} {ds:List PyData},ImAll K H vs ds→ImAll K H' vs ds
 | _,_,.nil=>.nil
 | _,_,.cons h t=>.cons (Im.mono k h) (ImAll.mono k t)
end
mutual
theorem Im.dp:∀ {v:V} {d:PyData},Im K H v d→Dp K H v d
 | _,_,.non=>.non
 | _,_,.bl b=>.bl b
 | _,_,.int i=>.int i
 | _,_,.str x=>.str x
 | _,_,.tup h a=>.tup h (ImAll.dp a)
theorem ImAll.dp:∀ {vs:List V} {ds:List PyData},ImAll K H vs ds→DpAll K H vs ds
 | _,_,.nil=>.nil
 | _,_,.cons h t=>.cons (Im.dp h) (ImAll.dp t)
end
theorem Im.of_str{v:V}{x:Str}(h:Im K H v (.str x)):v = .str x:=by cases h; rfl
theorem Im.of_int{v:V}{x:Int}(h:Im K H v (.int x)):v = .int x:=by cases h; rfl
theorem Im.of_tup{v:V}{ds:List PyData}(h:Im K H v (.tuple ds)):∃ a xs,v = .ref a∧SqT K H a xs∧ImAll K H xs ds:=by
 cases h with
 | tup h a=>exact⟨_,_,rfl,h,a⟩
theorem ImAll.of_nil{vs:List V}(h:ImAll K H vs []):vs=[]:=by cases h; rfl
theorem ImAll.of_cons{vs:List V}{d:PyData}{ds:List PyData}(h:ImAll K H vs (d :: ds)):∃ v r,vs=v :: r∧Im K H v d∧ImAll K H r ds:=by
 cases h with
 | cons h t=>exact⟨_,_,rfl,h,t⟩
theorem ImAll.length:∀ {vs:List V} {ds:List PyData},ImAll K H vs ds→vs.length=ds.length
 | _,_,.nil=>rfl
 | _,_,.cons _ t=>by simp[ImAll.length t]
theorem ImAll.get:∀ {vs:List V} {ds:List PyData} {i:Nat} {v:V},ImAll K H vs ds→vs[i]? = some v→∃ d,ds[i]? = some d∧Im K H v d
 | _,_,_,_,.nil,e=>by simp at e
 | _,_,0,_,.cons h _,e=>by simp at e; subst e; exact⟨_,rfl,h⟩
 | _,_,i + 1,_,.cons _ t,e=>by
   obtain⟨d,h1,h2⟩:=ImAll.get (i:=i) t (by simpa using e)
   exact⟨d,by simpa using h1,h2⟩
theorem ImAll.append:∀ {vs ws:List V} {ds es:List PyData},ImAll K H vs ds→ImAll K H ws es→ImAll K H (vs++ws) (ds++es)
 | _,_,_,_,.nil,s=>s
 | _,_,_,_,.cons h t,s=>.cons h (ImAll.append t s)
end
section
variable {X:Cx}
def rAdd(K:YC):R2:=fun x y H Q=>(rI0 fun i j=>.int (i + j)) x y H Q∨((fun x y H Q=>∃ i j,x = .str i∧y = .str j∧i.length + j.length ≤ YM∧Q (.str (i++j)) H):R2) x y H Q∨rCat x y H Q∨rCatA K x y H Q
theorem Zae:OpR X (binaryOp .Add) (rAdd X.K):=OpR.or op_add (OpR.or op_add_str (OpR.or op_cat op_catA))
def ZbB(K:YC):R2:=fun x y H Q=>rEq x y H Q∨rEqD K x y H Q
def Zi8(K:YC):R2:=fun x y H Q=>rNe x y H Q∨rNeD K x y H Q
theorem Zab(hu:X.A.units + 64 < cLine):OpR X (compareOp .Eq) (ZbB X.K):=OpR.or op_eq (op_eqD hu)
theorem Zik(hu:X.A.units + 64 < cLine):OpR X (compareOp .NotEq) (Zi8 X.K):=OpR.or op_ne (op_neD hu)
abbrev Zg3:R2:=rI0 fun i j=>.int (i - j)
abbrev Zma:R2:=rI CMul fun i j=>.int (i * j)
abbrev ZnB:R2:=rI CDivW fun i j=>.int (i / j)
abbrev Zja:R2:=rI (fun _ j=>0 < j) fun i j=>.int (i % j)
abbrev ZnC:R2:=rI CPow fun i j=>.int (i ^ j.toNat)
abbrev ZkZ:R2:=rI0 fun i j=>.bl (decide (i < j))
abbrev ZsR:R2:=rI0 fun i j=>.bl (decide (i ≤ j))
abbrev Zl7:R2:=rI0 fun i j=>.bl (decide (j < i))
abbrev ZsS:R2:=rI0 fun i j=>.bl (decide (j ≤ i))
abbrev ZnD:V→Hp→VK→Prop:=rU fun i=>.int (-i)
end
inductive PEl where
 | lit (x:Str) | cap (i:Nat) | any
def pmV:List PEl→List V→Option (List (Nat×V))
 | .lit x :: ps,v :: vs=>if v = .str x then pmV ps vs else none
 | .cap i :: ps,v :: vs=>(pmV ps vs).map ((i,v) :: ·)
 | .any :: ps,_ :: vs=>pmV ps vs
 | _,_=>some []
def litOk:List PEl→List V→Prop
 | .lit _ :: ps,v :: vs=>(∃ y,v = .str y)∧litOk ps vs
 | _ :: ps,_ :: vs=>litOk ps vs
 | _,_=>True
section
variable {X:Cx}
inductive PPt (X:Cx):List Pattern→List PEl→Prop
 | nil:PPt X [] []
 | lit {x:Str} {j:Nat} {p pos:Pos} {ps:List Pattern} {es:List PEl}:PPt X ps es→PPt X (.MatchValue (.Constant (.str x) j p) pos :: ps) (.lit x :: es)
 | cap {i:Nat} {n:Str} {pos:Pos} {ps:List Pattern} {es:List PEl} (hi:X.N[i]? = some n) (hx:Loc X.env.scope n) (hf:X.fn n=true∨X.env.scope.names.lookup n=some .local):PPt X ps es→PPt X (.MatchAs none (some n) pos :: ps) (.cap i :: es)
 | any {pos:Pos} {ps:List Pattern} {es:List PEl}:PPt X ps es→PPt X (.MatchAs none none pos :: ps) (.any :: es)
theorem Zaj:PPt X [] []:=.nil
theorem Zaw{x:Str}{j:Nat}{p pos:Pos}{ps:List Pattern}{es:List PEl}(h:PPt X ps es):PPt X (.MatchValue (.Constant (.str x) j p) pos :: ps) (.lit x :: es):=.lit h
def BsR(X:Cx)(b:Nat×V)(c:Str×YI):Prop:=X.N[b.1]? = some c.1∧Loc X.env.scope c.1∧(X.fn c.1=true∨X.env.scope.names.lookup c.1=some .local)∧RelV b.2 c.2
theorem ZnE{pins:List (YF×Obj)}{σ:L2.St}{H:Hp}:∀ {ps:List Pattern} {es:List PEl} {vs:List V} {us:List YI} {s:YJ},PPt X ps es→Inv X pins σ H s→Vals vs us→litOk es vs→es.length=vs.length →
  wpAny (model X.prog X.w) X.A (matchEach ps X.env us) (fun r s1=>Inv X pins σ H s1∧match pmV es vs with
   | none=>r=none
   | some bs=>∃ cs,r=some cs∧Paired (BsR X) bs cs) X.xe s:=by
 intro ps
 induction ps with
 | nil =>
   intro es vs us s P I r ok hl
   cases P
   exact wpAny_matchEach_nil ⟨I,[],rfl,.nil⟩
 | cons p ps ih =>
   intro es vs us s P I r ok hl
   cases P with
   | @lit x j pp pos _ es P =>
     cases r with
     | nil=>simp at hl
     | @cons v u vs us r rs =>
       obtain⟨⟨y,rfl⟩,ok⟩:=ok
       refine wpAny_matchEach_cons (wpAny_matchPattern_Value (Calls.Constant_str ?_))
       refine thn (op_eq pins _ σ H (.str y) (.str x) _ _ (fun b H'=>b = .bl (decide ((V.str y) = .str x))∧H'=H) (I.tok _) r ⟨_,rfl⟩ ⟨rfl,rfl,rfl⟩) fun c s2 ⟨b,H2,I2,rb,e1,e2⟩=>?_
       subst e1 e2
       cases rb
       refine wpAny_truthy_bool ?_
       by_cases e:(V.str y) = .str x
       ·rw[decide_eq_true e]
        refine thn (ih P I2 rs ok (by simpa using hl)) fun r' s3 ⟨I3,q⟩=>?_
        unfold pmV
        rw[if_pos e]
        cases z:pmV es vs with
        | none =>
          rw[z]at q
          cases q
          exact⟨I3,rfl⟩
        | some bs =>
          rw[z]at q
          obtain⟨cs,rfl,pr⟩:=q
          exact⟨I3,cs,rfl,pr⟩
       ·rw[decide_eq_false e]
        unfold pmV
        rw[if_neg e]
        exact⟨I2,rfl⟩
   | @cap i n pos _ es hi hx hf P =>
     cases r with
     | nil=>simp at hl
     | @cons v u vs us r rs =>
       refine wpAny_matchEach_cons (wpAny_matchPattern_Capture ?_)
       refine thn (ih P I rs ok (by simpa using hl)) fun r' s3 ⟨I3,q⟩=>?_
       unfold pmV
       cases z:pmV es vs with
       | none =>
         rw[z]at q
         cases q
         exact⟨I3,rfl⟩
       | some bs =>
         rw[z]at q
         obtain⟨cs,rfl,pr⟩:=q
         exact⟨I3,_,rfl,.cons ⟨hi,hx,hf,r⟩ pr⟩
   | @any pos _ es P =>
     cases r with
     | nil=>simp at hl
     | @cons v u vs us r rs =>
       refine wpAny_matchEach_cons (wpAny_matchPattern_Capture ?_)
       refine thn (ih P I rs ok (by simpa using hl)) fun r' s3 ⟨I3,q⟩=>?_
       unfold pmV
       cases z:pmV es vs with
       | none =>
         rw[z]at q
         cases q
         exact⟨I3,rfl⟩
       | some bs =>
         rw[z]at q
         obtain⟨cs,rfl,pr⟩:=q
         exact⟨I3,_,rfl,pr⟩
def ZfT(σ:L2.St):List (Nat×V)→L2.St
 | []=>σ
 | b :: bs=>ZfT (σ.set b.1 (some b.2)) bs
theorem Zj4{pins:List (YF×Obj)}{H:Hp}(hN:X.N.Nodup):∀ {bs:List (Nat×V)} {cs:List (Str×YI)} {σ:L2.St} {s:YJ},Paired (BsR X) bs cs→Inv X pins σ H s →
  wpAny (model X.prog X.w) X.A (assignInOrder (cs.map fun(n,_)=>bindName X.env n) (cs.map (·.2))) (fun _ s'=>Inv X pins (ZfT σ bs) H s') X.xe s
 | _,_,_,_,.nil,I=>wpAny_assignInOrder_none I
 | b :: bs,_,σ,_,.cons ⟨hi,hx,hf,r⟩ pr,I=>by
   have go:∀ s1,Inv X pins (σ.set b.1 (some b.2)) H s1→_:=fun s1 I1=>Zj4 (bs:=bs) (σ:=σ.set b.1 (some b.2)) hN pr I1
   exact wpAny_assignInOrder_more (wpAny_bindName (store_ok I hN hi hx r (fun s1 I1=>go s1 I1) hf))
def Zdk:List (Option (List PEl)×TS)→List V→TS
 | [],_=>fun D σ H=>D.nx σ H
 | (none,t) :: _,_=>t
 | (some es,t) :: r,xs=>fun D σ H=>if es.length=xs.length then litOk es xs∧(match pmV es xs with
   | some bs=>t D (ZfT σ bs) H
   | none=>Zdk r xs D σ H)else Zdk r xs D σ H
inductive PCs (X:Cx):List MatchCase→List (Option (List PEl)×TS)→Prop
 | nil:PCs X [] []
 | any {pos:Pos} {body:List YK} {rest:List MatchCase} {t:TS} {r:List (Option (List PEl)×TS)}:PSs X body t→PCs X rest r→PCs X (⟨.MatchAs none none pos,none,body⟩ :: rest) ((none,t) :: r)
 | cons {ps:List Pattern} {pos:Pos} {body:List YK} {rest:List MatchCase} {es:List PEl} {t:TS} {r:List (Option (List PEl)×TS)}:PPt X ps es→ps.findIdx? (·.isStar)=none →
   (ps.all fun p=>p.isWildcard || (p.isStar && p.names.isEmpty))=false→PSs X body t→PCs X rest r→PCs X (⟨.MatchSequence ps pos,none,body⟩ :: rest) ((some es,t) :: r)
theorem Zjb:PCs X [] []:=.nil
theorem Z4{ps:List Pattern}{pos:Pos}{body:List YK}{rest:List MatchCase}{es:List PEl}{t:TS}{r:List (Option (List PEl)×TS)}(h:PPt X ps es)(b:PSs X body t)(k:PCs X rest r)
  (h1:ps.findIdx? (·.isStar)=none:=by rfl) (h2:(ps.all fun p=>p.isWildcard || (p.isStar && p.names.isEmpty))=false:=by rfl):PCs X (⟨.MatchSequence ps pos,none,body⟩ :: rest) ((some es,t) :: r):=.cons h h1 h2 b k
theorem Zd1:∀ {ps:List Pattern} {es:List PEl},PPt X ps es→ps.length=es.length
 | _,_,.nil=>rfl
 | _,_,.lit h=>by simp[Zd1 h]
 | _,_,.cap _ _ _ h=>by simp[Zd1 h]
 | _,_,.any h=>by simp[Zd1 h]
theorem ZhA{pins:List (YF×Obj)}{σ:L2.St}{H:Hp}{a:YF}{xs:List V}{D:Ends}(hc:X.calm=true)(hN:X.N.Nodup)(hq:SqT X.K H a xs):∀ {cs:List MatchCase} {ts:List (Option (List PEl)×TS)} {s:YJ} {b:Bool},PCs X cs ts→Inv X pins σ H s→Zdk ts xs D σ H →
  wpAny (model X.prog X.w) X.A (matchCases cs X.env (.ref a) b) (SP X pins D) X.xe s
 | _,_,_,_,.nil,I,h=>wpAny_matchCases_nil ⟨σ,H,I,h⟩
 | _,_,_,_,.any B _,I,h=>wpAny_matchCases_cons (wpAny_matchPattern_Capture (wpAny_assignInOrder_none (B.run _ _ _ _ _ I h)))
 | _,_,s,_,@PCs.cons _ ps pos body rest es t r P h1 h2 B C,I,h=>by
   obtain⟨its,rv,p,hz⟩:=I.tuple hq
   have hl:=rv.length
   have fit:((its.toArray.size:Nat):Int) < 2 ^ 63:=by
    have:=sizeLine_eq
    simp only[List.size_toArray]
    omega
   unfold Zdk at h
   have pl:=Zd1 P
   refine wpAny_matchCases_cons ?_
   by_cases e:es.length=xs.length
   ·rw[if_pos e]at h
    obtain⟨ok,h⟩:=h
    have en:its.toArray.size=ps.length:=by simp; omega
    refine matchSeq_tuple_hit p fit en ?_ h1 h2
    rw[← en]
    refine unpackItems_tuple (I.ok.hd hc) p fun h' hx=>?_
    have I1:Inv X pins σ H { s with heap:=h',toks:=s.toks + 1 + 1 }:=(I.kept (t':=s.toks + 1 + 1) fun b o e=>hx b o (YS (Heap.lt_size e)) e)
    refine thn (ZnE P I1 (by simpa using rv) ok e) fun r' s2 ⟨I2,q⟩=>?_
    cases z:pmV es xs with
    | none =>
      rw[z]at q h
      cases q
      exact ZhA hc hN hq C I2 h
    | some bs =>
      rw[z]at q h
      obtain⟨cs,rfl,pr⟩:=q
      exact thn (Zj4 hN pr I2) fun _ s3 I3=>B.run _ _ _ _ _ I3 h
   ·rw[if_neg e]at h
    refine matchSeq_tuple_miss p fit (by simp; omega) ?_ h1 h2
    exact ZhA hc hN hq C (I.tok _) h
def Zil(K:YC)(te:TE)(cs:List (Option (List PEl)×TS)):TS:=fun D σ H=>te σ H fun x H1=>∃ a xs,x = .ref a∧SqT K H1 a xs∧Zdk cs xs D σ H1
theorem ZhB{e:Expr}{te:TE}{cases:List MatchCase}{cs:List (Option (List PEl)×TS)}{pos:Pos}(hc:X.calm=true)(hN:X.N.Nodup)(he:PE X e te)(h:PCs X cases cs):PS X (.Match e cases pos) (Zil X.K te cs):=by
 refine⟨fun pins s σ H D I hw=>?_⟩
 refine wpAny_Match (thn (he.run pins s σ H _ I hw) fun v s1 ⟨x,H1,I1,r1,q1⟩=>?_)
 obtain⟨a,xs,rfl,hq,q⟩:=q1
 cases r1
 exact ZhA hc hN hq h I1 q
end
structure Blt(mg:Str→Option YI):Prop where
 isinstance:mg "isinstance" = none
 int:mg "int" = none
 bool:mg "bool" = none
 str:mg "str" = none
 len:mg "len" = none
 max:mg "max" = none
 min:mg "min" = none
 range:mg "range" = none
 list:mg "list" = none
 tuple:mg "tuple" = none
 dict:mg "dict" = none
 sorted:mg "sorted" = none
 enumerate:mg "enumerate" = none
theorem Zbu:bootBuiltins "isinstance" = some (.builtin "isinstance"):=by decide +kernel
theorem ZoY:bootBuiltins "max" = some (.builtin "max"):=by decide +kernel
theorem Zci:bootBuiltins "len" = some (.builtin "len"):=by decide +kernel
theorem Zfb:bootBuiltins "int" = some (.type "int"):=by decide +kernel
theorem ZnF:bootBuiltins "bool" = some (.type "bool"):=by decide +kernel
theorem Zk0:bootBuiltins "list" = some (.type "list"):=by decide +kernel
theorem Zjc:bootBuiltins "dict" = some (.type "dict"):=by decide +kernel
section
variable {X:Cx}
theorem sN(i:Nat){x:Str}{e:Expr}{te:TE}{pos pos':Pos}(hN:X.N.Nodup)(he:PE X e te)(hi:X.N[i]? = some x:=by rfl)(hx:Loc X.env.scope x:=by first | exact Or.inl rfl | exact Or.inr rfl)
  (hs:swapsWith e (some (.Name x pos')) pos.line X.env=pure false:=by rfl) (hf:X.fn x=true∨X.env.scope.names.lookup x=some .local:=by first | exact .inl rfl | exact .inr rfl | assumption) :
  PS X (.Assign [.Name x pos'] e pos) (Xm te (Y6 i)):=ps_set hN hi hx he hs hf
theorem gN(i:Nat){x:Str}{pos:Pos}(hN:X.N.Nodup)(hi:X.N[i]? = some x:=by rfl)(hx:Loc X.env.scope x:=by first | exact Or.inl rfl | exact Or.inr rfl)
  (hf:X.fn x=true∨X.env.scope.names.lookup x=some .local:=by first | exact .inl rfl | exact .inr rfl | assumption):PG X (.Name x pos) (Y6 i):=pg_name hN hi hx hf
theorem cN(i:Nat){n:Str}{pos:Pos}{ps:List Pattern}{es:List PEl}(h:PPt X ps es)(hi:X.N[i]? = some n:=by rfl)(hx:Loc X.env.scope n:=by first | exact Or.inl rfl | exact Or.inr rfl)
  (hf:X.fn n=true∨X.env.scope.names.lookup n=some .local:=by first | exact .inl rfl | exact .inr rfl | assumption):PPt X (.MatchAs none (some n) pos :: ps) (.cap i :: es):=.cap hi hx hf h
def Zg4(K:YC)(tl:TE):TI:=fun σ H R=>tl σ H fun x H1=>∃ a,x = .ref a∧((∃ xs,SqL K H1 a xs)∧R (Itl K a) H1∨(∃ xs,SqT K H1 a xs)∧R (Itt K a) H1)
theorem ZbR{tg l:Expr}{tl:TE}(hl:PE X l tl):PI X tg l (Zg4 X.K tl):=by
 refine⟨fun pins s σ H R I h=>?_⟩
 refine thn (hl.run pins s σ H _ I h) fun v s1 ⟨x,H1,I1,r1,q1⟩=>?_
 obtain⟨a,e,q⟩:=q1
 subst e
 cases r1
 rcases q with⟨⟨xs,hq⟩,q⟩ | ⟨⟨xs,hq⟩,q⟩
 ·obtain⟨its,rv,p,hz⟩:=I1.list hq
  refine wpAny_pyIter_list p.isList ?_
  refine⟨s1.heap.objs.size,[s1.heap.objs.size],_,_,H1,rfl,I1.kept (t':=s1.toks) fun b o e=>YN _ e,turn_list a _,⟨_,YO _ rfl,rfl,rfl⟩,fun b hb=>?_,q⟩
  have e:b=s1.heap.objs.size:=by simpa using hb
  subst e
  exact I1.fpOk (YQ _) (I1.hok.fresh (YQ _))
 ·obtain⟨its,rv,p,hz⟩:=I1.tuple hq
  refine wpAny_pyIter_tuple (show s1.heap.IsTuple a its.toArray from p) ?_
  refine⟨s1.heap.objs.size,[s1.heap.objs.size],_,_,H1,rfl,I1.kept (t':=s1.toks) fun b o e=>YN _ e,turn_tuple a _,⟨_,YO _ rfl,rfl,rfl⟩,fun b hb=>?_,q⟩
  have e:b=s1.heap.objs.size:=by simpa using hb
  subst e
  exact I1.fpOk (YQ _) (I1.hok.fresh (YQ _))
def Zfc:List V→Hp→VK→Prop:=fun xs H Q=>(∃ i,xs=[.int i]∧Q (.int i) H)∨∃ k,xs=[.bl k]∧Q (.int (if k then 1 else 0)) H
theorem Zgm:CallR X (.type "int") Zfc:=call_int1
def ZoZ:List V→Hp→VK→Prop:=fun xs H Q=>∃ i,xs=[.int i]∧i.natAbs.log2 < 1920∧Q (.str (toString i)) H
theorem Zcj:CallR X (.builtin "len") (rLen X.K):=call_len
def rMax2:List V→Hp→VK→Prop:=fun xs H Q=>∃ i j,xs=[.int i,.int j]∧Q (.int (if j > i then j else i)) H
theorem Zo0(hc:X.calm=true):CallR X (.builtin "max") rMax2:=call_max2 hc
def ZhC(K:YC):List V→Hp→VK→Prop:=fun xs H Q=>∃ p ys,xs=[V.ref p]∧(SqL K H p ys∨SqT K H p ys)∧∀ l,H l=none→Q (V.ref l) (upd H l (HO.lst ys))
theorem Zk1:CallR X (.type "list") (ZhC X.K):=call_list_of
def rJoin(K:YC):V→List V→Hp→VK→Prop:=fun x xs H Q=>∃ a p,∃ ys:List Str,x = .str a∧xs=[.ref p]∧(SqL K H p (ys.map V.str)∨SqT K H p (ys.map V.str)) ∧
   (ys.map (·.length)).sum + ys.length * a.length ≤ 16777216∧Q (.str (Txt.join a ys)) H
theorem Zmb{o e:Expr}{to te:TE}{apos pos:Pos}(ho:PE X o to)(he:PE X e te)(hs:starEach [e] X.env=[(false,eval e X.env)]:=by rfl)(hbase:attributeBase o "join" X.env (eval o X.env)=eval o X.env:=by rfl) (hline:(apos.endLine == pos.line)=true:=by rfl) :
  PE X (.Call (.Attribute o "join" apos) [e] [] pos) (tM1 (rJoin X.K) to te):=pe_join ho he hs hbase hline
def tFS(ts:List TE):TE:=fun σ H Q=>tJs ts Str.empty σ H fun out H1=>Q (.str out) H1
end
section
variable {K:YC} {σ:L2.St} {H:Hp} {Q:VK} {D:Ends}
theorem Zmc{p A B:Prop} [Decidable p] (h:p) (a:A):if decide p=true then A else B:=by rw[decide_eq_true h]; exact iteT a
theorem Zk2{p A B:Prop} [Decidable p] (h:¬ p) (b:B):if decide p=true then A else B:=by rw[decide_eq_false h]; exact iteF b
theorem Zna{p A B:Prop} [Decidable p] (h:p) (b:B):if (!decide p)=true then A else B:=by rw[decide_eq_true h]; exact iteF b
theorem Znb{p A B:Prop} [Decidable p] (h:¬ p) (a:A):if (!decide p)=true then A else B:=by rw[decide_eq_false h]; exact iteT a
theorem Zbv{p A B:Prop} [Decidable p] (ha:p→A) (hb:¬ p→B):if decide p=true then A else B:=by
 by_cases h:p
 ·exact Zmc h (ha h)
 ·exact Zk2 h (hb h)
theorem Zo1{i j:Int}(h:Q (.int (i + j)) H):rAdd K (.int i) (.int j) H Q:=.inl ⟨i,j,rfl,rfl,h⟩
theorem Zo2{i j:Str}(l:i.length + j.length ≤ YM)(h:Q (.str (i++j)) H):rAdd K (.str i) (.str j) H Q:=.inr (.inl ⟨i,j,rfl,rfl,l,h⟩)
theorem Zk3{a b:YF}{xs ys:List V}(ha:H a=some (.lst xs))(hb:H b=some (.lst ys))(l:xs.length + ys.length ≤ YM)(h:∀ p H',H p=none→Zb [] H H'→H' p=some (.lst (xs++ys))→Q (.ref p) H'):rAdd K (.ref a) (.ref b) H Q :=
 .inr (.inr (.inl ⟨a,b,xs,ys,rfl,rfl,ha,hb,l,fun p hp=>h p _ hp (Zb.new hp) Y_⟩))
theorem Zim{a b:YF}{xs ys:List V}(ha:SqT K H a xs)(hb:SqT K H b ys)(l:xs.length + ys.length ≤ YM)(h:∀ p H',Zb [] H H'→SqT K H' p (xs++ys)→Q (.ref p) H'):rAdd K (.ref a) (.ref b) H Q:=by
 refine .inr (.inr (.inr ⟨a,b,xs,ys,rfl,rfl,ha,hb,l,fun e=>?_,fun _ e=>?_,fun _ _ p hp=>h p _ (Zb.new hp) (SqT.of Y_)⟩))
 ·subst e; exact h b H (Zb.refl _ _) hb
 ·subst e; exact h a H (Zb.refl _ _) (by rw[List.append_nil]; exact ha)
theorem Zo3{a b:Str}(h:Q (.bl (decide (a=b))) H):ZbB K (.str a) (.str b) H Q:=by
 refine .inl ⟨rfl,?_⟩
 have e:decide (V.str a=V.str b)=decide (a=b):=by
  by_cases q:a=b
  ·rw[decide_eq_true q,decide_eq_true (congrArg V.str q)]
  ·rw[decide_eq_false q,decide_eq_false fun z=>q (V.str.inj z)]
 rw[e]; exact h
theorem Zrb{a b:Int}(h:Q (.bl (decide (a=b))) H):ZbB K (.int a) (.int b) H Q:=by
 refine .inl ⟨rfl,?_⟩
 have e:decide (V.int a=V.int b)=decide (a=b):=by
  by_cases q:a=b
  ·rw[decide_eq_true q,decide_eq_true (congrArg V.int q)]
  ·rw[decide_eq_false q,decide_eq_false fun z=>q (V.int.inj z)]
 rw[e]; exact h
theorem Zrc{a b:Str}(h:Q (.bl (!decide (a=b))) H):Zi8 K (.str a) (.str b) H Q:=by
 refine .inl ⟨rfl,?_⟩
 have e:decide (V.str a=V.str b)=decide (a=b):=by
  by_cases q:a=b
  ·rw[decide_eq_true q,decide_eq_true (congrArg V.str q)]
  ·rw[decide_eq_false q,decide_eq_false fun z=>q (V.str.inj z)]
 rw[e]; exact h
theorem Zrd{a b:Int}(h:Q (.bl (!decide (a=b))) H):Zi8 K (.int a) (.int b) H Q:=by
 refine .inl ⟨rfl,?_⟩
 have e:decide (V.int a=V.int b)=decide (a=b):=by
  by_cases q:a=b
  ·rw[decide_eq_true q,decide_eq_true (congrArg V.int q)]
  ·rw[decide_eq_false q,decide_eq_false fun z=>q (V.int.inj z)]
 rw[e]; exact h
theorem Zgn{a:YF}{xs:List V}{i:Int}{v:V}(h:SqT K H a xs)(e:atI xs i=some v)(q:Q v H):rIx K (.ref a) (.int i) H Q:=.inr (.inl ⟨a,xs,i,v,rfl,rfl,h,e,q⟩)
theorem Zaz{a:YF}{xs:List V}{i:Int}{v:V}(h:SqL K H a xs)(e:atI xs i=some v)(q:Q v H):rIx K (.ref a) (.int i) H Q:=.inl ⟨a,xs,i,v,rfl,rfl,h,e,q⟩
theorem Zre{z:Str}{i:Int}{c:Nat}(l:z.length ≤ YM)(e:atI z.cps.toList i=some c)(q:Q (.str ⟨#[c]⟩) H):rIx K (.str z) (.int i) H Q:=.inr (.inr ⟨z,i,c,rfl,rfl,l,e,q⟩)
theorem Zrf{i:Int}(h:Q (.int i) H):Zfc [.int i] H Q:=.inl ⟨i,rfl,h⟩
theorem Zo4{b:Bool}(h:Q (.int (if b then 1 else 0)) H):Zfc [.bl b] H Q:=.inr ⟨b,rfl,h⟩
theorem Zrg{i:Int}(l:i.natAbs.log2 < 1920)(h:Q (.str (toString i)) H):ZoZ [.int i] H Q:=⟨i,rfl,l,h⟩
theorem Zj5{a:YF}{xs:List V}(s:SqL K H a xs)(h:Q (.int xs.length) H):rLen K [.ref a] H Q:=⟨_,_,rfl,.inl ⟨xs,s,rfl⟩,h⟩
theorem Znc{a:YF}{xs:List V}(s:SqT K H a xs)(h:Q (.int xs.length) H):rLen K [.ref a] H Q:=⟨_,_,rfl,.inr ⟨xs,s,rfl⟩,h⟩
theorem Zo5{z:Str}(l:z.length ≤ YM)(h:Q (.int z.length) H):rLen K [.str z] H Q:=⟨_,_,rfl,⟨l,rfl⟩,h⟩
theorem Zrh{i j:Int}(h:Q (.int (if j > i then j else i)) H):rMax2 [.int i,.int j] H Q:=⟨i,j,rfl,h⟩
theorem ZnG{a:YF}{xs:List V}(h:SqT K H a xs):TyX K H (.ref a) (.type "tuple"):=by
 rcases h with(h | ⟨o,h⟩) | ⟨o,its,n,hk,hc,_⟩
 ·exact .base (.tup h)
 ·exact .fTuple h
 ·exact .kTuple hk hc
theorem Zks{x:V}{t n:String}{b:Bool}(ty:TyX K H x (.type t))(k:kitB t n=some b)(q:Q (.bl b) H):rIsi K [x,.ty n] H Q:=⟨x,.ty n,.type t,.type n,b,rfl,.ty n,ty,kit_ty k,q⟩
theorem Znd{i:Int}{n:String}{b:Bool}(k:kitB "int" n=some b) (q:Q (.bl b) H):rIsi K [.int i,.ty n] H Q:=Zks (.base (.int i)) k q
theorem Zne{i:Bool}{n:String}{b:Bool}(k:kitB "bool" n=some b) (q:Q (.bl b) H):rIsi K [.bl i,.ty n] H Q:=Zks (.base (.bl i)) k q
theorem Znf{i:Str}{n:String}{b:Bool}(k:kitB "str" n=some b) (q:Q (.bl b) H):rIsi K [.str i,.ty n] H Q:=Zks (.base (.str i)) k q
theorem Zng{a:YF}{xs:List V}{n:String}{b:Bool}(s:SqT K H a xs)(k:kitB "tuple" n=some b) (q:Q (.bl b) H):rIsi K [.ref a,.ty n] H Q:=Zks (ZnG s) k q
end
def mkT(K:YC)(xs:List V)(H:Hp)(Q:VK):Prop:=xs.length ≤ YM∧∀ p H2,H p=none→Zb [] H H2→SqT K H2 p xs→Q (.ref p) H2
def mkL(xs:List V)(H:Hp)(Q:VK):Prop:=xs.length ≤ YM∧∀ p H2,H p=none→Zb [] H H2→H2 p=some (.lst xs)→Q (.ref p) H2
def Zf(K:YC)(t:TA):TE:=fun σ H Q=>t σ H fun xs H1=>mkT K xs H1 Q
def Zbi(t:TA):TE:=fun σ H Q=>t σ H fun xs H1=>mkL xs H1 Q
section
variable {X:Cx}
theorem Za{es:List Expr}{t:TA}{x1}{pos:Pos}(h:PA X es t):PE X (.Tuple es x1 pos) (Zf X.K t):=by
 refine⟨fun pins s σ H Q I hq=>?_⟩
 refine wpAny_Tuple_spliced (thn (h.run pos pins s σ H _ I hq) fun us s1 ⟨xs,H1,I1,r,z,q⟩=>⟨by rw[← r.length]; exact z,?_⟩)
 have hf:H1 s1.heap.objs.size=none:=I1.hok.fresh (YQ _)
 refine⟨.ref s1.heap.objs.size,upd H1 s1.heap.objs.size (.tup xs),I1.laid (t':=s1.toks) (fun b u e=>YN _ e) (YQ _) ?_,rfl,q _ _ hf (Zb.new hf) (SqT.of Y_)⟩
 exact⟨z,us,r,⟨_,YO _ rfl,rfl,_,rfl⟩⟩
theorem ZI{es:List Expr}{t:TA}{pos:Pos}(h:PA X es t):PE X (.List es pos) (Zbi t):=by
 refine⟨fun pins s σ H Q I hq=>?_⟩
 refine wpAny_List_spliced (thn (h.run pos pins s σ H _ I hq) fun us s1 ⟨xs,H1,I1,r,z,q⟩=>⟨by rw[← r.length]; exact z,?_⟩)
 have hf:H1 s1.heap.objs.size=none:=I1.hok.fresh (YQ _)
 refine⟨.ref s1.heap.objs.size,upd H1 s1.heap.objs.size (.lst xs),I1.laid (t':=s1.toks) (fun b u e=>YN _ e) (YQ _) ?_,rfl,q _ _ hf (Zb.new hf) Y_⟩
 exact⟨z,us,0,r,YO _ rfl⟩
end
section
variable {K:YC} {σ:L2.St} {H:Hp} {Q:VK} {D:Ends}
theorem Zj{xs:List V}(l:xs.length ≤ YM)(h:∀ p H2,H p=none→Zb [] H H2→SqT K H2 p xs→Q (.ref p) H2):mkT K xs H Q:=⟨l,h⟩
theorem Zbr{xs:List V}(l:xs.length ≤ YM)(h:∀ p H2,H p=none→Zb [] H H2→H2 p=some (.lst xs)→Q (.ref p) H2):mkL xs H Q:=⟨l,h⟩
theorem ZcY{l:YF}{xs:List V}{y:V}(h:H l=some (.lst xs))(z:xs.length < YM)(q:∀ H',Zb [l] H H'→H' l=some (.lst (xs++[y]))→Q .non H'):rAppend (.ref l) [y] H Q :=
 ⟨l,xs,y,rfl,rfl,h,z,q _ (Zb.put h True.intro) Y_⟩
theorem Zri{l b:YF}{xs ys:List V}(h:H l=some (.lst xs))(h2:H b=some (.lst ys))(z:xs.length + ys.length ≤ YM)(q:∀ H',Zb [l] H H'→H' l=some (.lst (xs++ys))→Q (.ref l) H'):rExt2 (.ref l) (.ref b) H Q :=
 ⟨l,b,xs,ys,rfl,rfl,h,h2,z,q _ (Zb.put h True.intro) Y_⟩
theorem Zk4{l:YF}{xs:List V}{i:Int}{v:V}{j:Nat}{R:Hp→Prop}(h:H l=some (.lst xs))(e:ixN xs.length i=some j)(q:∀ H',Zb [l] H H'→H' l=some (.lst (xs.set j v))→R H'):rSetL (.ref l) (.int i) v H R :=
 ⟨l,xs,i,j,rfl,rfl,h,e,q _ (Zb.put h True.intro) Y_⟩
theorem Zj6{p:YF}{xs:List V}(h:SqL K H p xs∨SqT K H p xs)(q:∀ l H',H l=none→Zb [] H H'→H' l=some (.lst xs)→Q (.ref l) H'):ZhC K [.ref p] H Q :=
 ⟨p,xs,rfl,h,fun l hl=>q l _ hl (Zb.new hl) Y_⟩
theorem ZhD{p:YF}{xs:List V}(h:SqL K H p xs)(q:∀ l H',H l=none→Zb [] H H'→SqT K H' l xs→Q (.ref l) H'):kTup K (.ref p) H Q :=
 .inl ⟨p,xs,rfl,h,fun l hl=>q l _ hl (Zb.new hl) (SqT.of Y_)⟩
theorem Zo6{n:Nat}{t:TGs}{a:YF}{xs:List V}{R:L2.St→Hp→Prop}(h:SqT K H a xs)(l:xs.length=n)(q:t xs σ H R):gTup K n t (.ref a) σ H R:=⟨a,xs,rfl,h,l,q⟩
theorem ZsT{t:TG}{u:TGs}{v:V}{r:List V}{R:L2.St→Hp→Prop}(q:t v σ H fun σ' H'=>u r σ' H' R):gCons t u (v :: r) σ H R:=⟨v,r,rfl,q⟩
theorem Zs_{R:L2.St→Hp→Prop}(q:R σ H):gNil [] σ H R:=⟨rfl,q⟩
theorem Zo7{a:Str}{p:YF}{ys:List Str}(h:SqL K H p (ys.map V.str))(l:(ys.map (·.length)).sum + ys.length * a.length ≤ 16777216)(q:Q (.str (Txt.join a ys)) H):rJoin K (.str a) [.ref p] H Q:=⟨a,p,ys,rfl,rfl,.inl h,l,q⟩
theorem ZnH{a:YF}{xs:List V}{P:List V→Prop}(h:SqT K H a xs)(q:P xs):∃ b ys,V.ref a = .ref b∧SqT K H b ys∧P ys:=⟨a,xs,rfl,h,q⟩
end
end M
namespace M
open PySem
inductive Ex where
 | int (i:Int) | nm (n:Str) | of (n a:Str) | bin (s:Bool) (l r:Ex)
 deriving DecidableEq
def opW(s:Bool):Str:=if s then "sum" else "less"
def Ex.d:Ex→PyData
 | .int i=>.int i
 | .nm n=>.tuple [.str "name",.str n]
 | .of n a=>.tuple [.str "of",.str n,.str a]
 | .bin s l r=>.tuple [.str (opW s),l.d,r.d]
inductive Stm where
 | set (n:Str) (e:Ex) | del (n:Str) | shw (e:Ex) | call (e:Ex) | raise
 | imp (m n:Str) | frm (m w n:Str) | star (m:Str)
 | fn (n:Str) (b:List Stm) | ite (e:Ex) (b o:List Stm) | tri (k:Str) (b h:List Stm)
mutual
def Stm.d:Stm→PyData
 | .set n e=>.tuple [.str "set",.str n,e.d]
 | .del n=>.tuple [.str "del",.str n]
 | .shw e=>.tuple [.str "show",e.d]
 | .call e=>.tuple [.str "call",e.d]
 | .raise=>.tuple [.str "raise"]
 | .imp m n=>.tuple [.str "\x69mport",.str m,.str n]
 | .frm m w n=>.tuple [.str "from",.str m,.str w,.str n]
 | .star m=>.tuple [.str "star",.str m]
 | .fn n b=>.tuple [.str "def",.str n,.tuple (blkD b)]
 | .ite e b o=>.tuple [.str "if",e.d,.tuple (blkD b),.tuple (blkD o)]
 | .tri k b h=>.tuple [.str "try",.str k,.tuple (blkD b),.tuple (blkD h)]
def blkD:List Stm→List PyData
 | []=>[]
 | s :: r=>s.d :: blkD r
end
theorem Z_:∀ b:List Stm,blkD b=b.map Stm.d
 | []=>by simp[blkD]
 | s :: r=>by simp[blkD,Z_ r]
def Ex.dep:Ex→Nat
 | .bin _ l r=>max l.dep r.dep + 1
 | _=>0
mutual
def Stm.dep:Stm→Nat
 | .fn _ b=>depL b + 1
 | .ite _ b o=>max (depL b) (depL o) + 1
 | .tri _ b h=>max (depL b) (depL h) + 1
 | _=>0
def depL:List Stm→Nat
 | []=>0
 | s :: r=>max s.dep (depL r)
end
def Ex.txt:Ex→Str
 | .int i=>(toString i:String)
 | .nm n=>n
 | .of n a=>n ++ "." ++ a
 | .bin s l r => "(" ++ l.txt++(if s then " + " else " < ")++r.txt ++ ")"
def Stm.head:Stm→Str
 | .set n e => "set " ++ n ++ " = " ++ e.txt
 | .del n => "del " ++ n
 | .shw e => "show" ++ " " ++ e.txt
 | .call e => "call" ++ " " ++ e.txt
 | .raise => "raise"
 | .imp m n => "\x69mport " ++ m ++ " as " ++ n
 | .frm m w n => "from " ++ m ++ " \x69mport " ++ w ++ " as " ++ n
 | .star m => "from " ++ m ++ " \x69mport *"
 | .fn n _ => "def" ++ " " ++ n ++ ":"
 | .ite e _ _ => "if " ++ e.txt ++ ":"
 | .tri k _ _ => "try" ++ " " ++ k ++ ":"
mutual
def Stm.lines(ind:Str):Stm→List Str
 | .fn n b=>[ind++(Stm.fn n b).head]++inner (ind ++ "  ") b
 | .ite e b o=>[ind++(Stm.ite e b o).head]++inner (ind ++ "  ") b++[ind ++ "else:"]++inner (ind ++ "  ") o
 | .tri k b h=>[ind++(Stm.tri k b h).head]++inner (ind ++ "  ") b++[ind ++ "except:"]++inner (ind ++ "  ") h
 | .set n e=>[ind++(Stm.set n e).head]
 | .del n=>[ind++(Stm.del n).head]
 | .shw e=>[ind++(Stm.shw e).head]
 | .call e=>[ind++(Stm.call e).head]
 | .raise=>[ind++Stm.raise.head]
 | .imp m n=>[ind++(Stm.imp m n).head]
 | .frm m w n=>[ind++(Stm.frm m w n).head]
 | .star m=>[ind++(Stm.star m).head]
def inner(ind:Str):List Stm→List Str
 | []=>[ind ++ "pass"]
 | s :: r=>s.lines ind++linesL ind r
def linesL(ind:Str):List Stm→List Str
 | []=>[]
 | s :: r=>s.lines ind++linesL ind r
end
theorem Zkt(ind:Str)(b:List Stm)(h:b≠[]):inner ind b=linesL ind b:=by
 cases b with
 | nil=>exact absurd rfl h
 | cons s r=>simp[inner,linesL]
def Ex.fits:Ex→Prop
 | .int i=>i.natAbs.log2 < 1920
 | .bin _ l r=>l.fits∧r.fits
 | _=>True
mutual
def Stm.fits:Stm→Prop
 | .set _ e=>e.fits∧e.dep < 10
 | .shw e=>e.fits∧e.dep < 10
 | .call e=>e.fits∧e.dep < 10
 | .ite e b o=>(e.fits∧e.dep < 10)∧fitsL b∧fitsL o
 | .fn _ b=>fitsL b
 | .tri _ b h=>fitsL b∧fitsL h
 | _=>True
def fitsL:List Stm→Prop
 | []=>True
 | s :: r=>s.fits∧fitsL r
end
theorem Zgd:∀ {b:List Stm} {i:Nat} {s:Stm},b[i]? = some s→s.dep ≤ depL b
 | [],_,_,e=>by simp at e
 | t :: r,0,s,e=>by simp only[List.getElem?_cons_zero,Option.some.injEq]at e; subst e; simp only[depL]; omega
 | t :: r,i + 1,s,e=>by simp only[List.getElem?_cons_succ]at e; simp only[depL]; have:=Zgd e; omega
def Small(ls:List Str):Prop:=ls.length ≤ 4000∧∀ l∈ls,l.length ≤ 4000
theorem Small.left{a b:List Str}(h:Small (a++b)):Small a:=⟨by have:=h.1; simp at this; omega,fun l m=>h.2 l (by simp[m])⟩
theorem Small.right{a b:List Str}(h:Small (a++b)):Small b:=⟨by have:=h.1; simp at this; omega,fun l m=>h.2 l (by simp[m])⟩
theorem Zj7:∀ {b:List Stm} {i:Nat} {d:PyData},(blkD b)[i]? = some d→∃ s,b[i]? = some s∧d=s.d
 | [],_,_,e=>by simp[blkD]at e
 | t :: r,0,d,e=>by simp only[blkD,List.getElem?_cons_zero,Option.some.injEq]at e; exact⟨t,by simp,e.symm⟩
 | t :: r,i + 1,d,e=>by simp only[blkD,List.getElem?_cons_succ]at e; obtain⟨s,h1,h2⟩:=Zj7 e; exact⟨s,by simpa using h1,h2⟩
theorem ZcZ(b:List Stm):(blkD b).length=b.length:=by rw[Z_,Yb]
theorem Zrj(x:Str):Str.empty++x=x:=by
 show(⟨#[]++x.cps⟩:Str)=x
 simp
theorem str_len(a b:Str):(a++b).length=a.length + b.length:=Str.length_append a b
theorem Z3:YM=16777216:=rfl
end M
namespace M
open PySem PySem.Spec PyProof.Rows L2
section
variable {X:Cx}
def Zrk(te:TE):TE:=fun σ H Q=>te σ H fun x H1=>∃ y:Str,x = .str y∧y.length ≤ YM∧Q (.str y) H1
def Zi9(K:YC):R2:=fun x y H Q=>rIn K false x y H Q∨(∃ (c:Nat) (z:Str),x = .str ⟨#[c]⟩∧y = .str z∧Q (.bl (decide (c∈z.cps.toList))) H)
theorem Zgo:OpR X (compareOp .In) (Zi9 X.K):=OpR.or op_in_seq op_in_sign
def ZbD(K:YC):R2:=fun x y H Q=>rIn K true x y H Q∨(∃ (c:Nat) (z:Str),x = .str ⟨#[c]⟩∧y = .str z∧Q (.bl (!decide (c∈z.cps.toList))) H)
theorem Zdz:OpR X (compareOp .NotIn) (ZbD X.K):=OpR.or op_notIn_seq op_notIn_sign
def Zhi:TIp:=fun x y H Q=>(rI0 fun i j=>.int (i + j)) x y H Q∨rExt2 x y H Q
theorem Zjd:PIp X .Add Zhi:=OpR.or iop_add iop_ext
end
theorem Zge(x:Str):∀ l:List Str,inV (.str x) (l.map V.str)=decide (x∈l)
 | []=>by simp[inV]
 | y :: r=>by
   have ih:=Zge x r
   have e1:inV (.str x) ((y :: r).map V.str)=(eqV (.str y) (.str x) || inV (.str x) (r.map V.str)):=rfl
   have e2:eqV (.str y) (.str x)=decide (x=y):=by
    show(y == x)=_
    by_cases e:x=y
    ·subst e; simp
    ·have e2:¬ y=x:=fun z=>e z.symm
     simp[e,e2]
   rw[e1,ih,e2]
   simp only[Yn,Bool.decide_or]
theorem flat_strs:∀ l:List Str,(l.map V.str).all flatV=true
 | []=>rfl
 | y :: r=>by simp[flatV,flat_strs r]
section
variable {K:YC} {σ:L2.St} {H:Hp} {Q:VK} {D:Ends}
def csO(o:Option (List (Nat×V)))(t:TS)(D:Ends)(σ:L2.St)(H:Hp)(R:Prop):Prop:=match o with
 | some bs=>t D (ZfT σ bs) H
 | none=>R
def Nx(u:TS)(D:Ends):L2.St→Hp→Prop:=u D
theorem Zrl{t u:TS}(h:t { D with nx:=Nx u D } σ H):Xb t u D σ H:=h
theorem Zta{u:TS}(h:u D σ H):Nx u D σ H:=h
theorem Zo8{v:V}:YU 0 (some v :: σ) H Q=Q v H:=by
 apply propext
 constructor
 ·rintro⟨w,e,h⟩; simp at e; subst e; exact h
 ·exact fun h=>⟨v,rfl,h⟩
theorem Zo9{i:Nat}{x:Option V}:YU (i + 1) (x :: σ) H Q=YU i σ H Q:=by
 unfold YU; simp
theorem q_c{v:V}:tC v σ H Q=Q v H:=rfl
theorem Ztb{r:R2}{ta tb:TE}:tOp r ta tb σ H Q=ta σ H fun x H1=>tb σ H1 fun y H2=>r x y H2 Q:=rfl
theorem Ztc{r:V→Hp→VK→Prop}{ta:TE}:tUn r ta σ H Q=ta σ H fun x H1=>r x H1 Q:=rfl
theorem Ztd{r:List V→Hp→VK→Prop}{t:TA}:tCB r t σ H Q=t σ H fun vs H1=>r vs H1 Q:=rfl
theorem Zo_{sp:Sp}{E:XK}{t:TA}:Xo sp [] E t σ H Q=t σ H fun vs H1=>sp vs H1 Q E:=by
 show(t σ H fun vs H1=>sp (vs++[]) H1 Q E)=_
 have e:(fun vs H1=>sp (vs++[]) H1 Q E)=fun vs H1=>sp vs H1 Q E:=by funext vs H1; rw[List.append_nil]
 rw[e]
theorem Zrm{R:List V→Hp→Prop}:Y1 σ H R=R [] H:=rfl
theorem Zpa{ta:TE}{tr:TA}{R:List V→Hp→Prop}:YV ta tr σ H R=ta σ H fun x H1=>tr σ H1 fun xs H2=>R (x :: xs) H2:=rfl
theorem q_if{c:TT}{ta tb:TE}:tIf c ta tb σ H Q=c σ H fun b H1=>if b=true then ta σ H1 Q else tb σ H1 Q:=rfl
theorem Zpb{t:TE}{R:Bool→Hp→Prop}:Xe t σ H R=t σ H fun x H'=>∃ k,x = .bl k∧R k H':=rfl
theorem Zte{t:TE}{R:Bool→Hp→Prop}:tB t σ H R=t σ H fun x H1=>∃ c,x = .bl c∧R c H1:=rfl
theorem Ztf{b:Bool}{P:Bool→Prop}:(∃ k,V.bl b = .bl k∧P k)=P b:=by
 apply propext; constructor
 ·rintro⟨k,e,h⟩; cases e; exact h
 ·exact fun h=>⟨b,rfl,h⟩
theorem Zrn{t u:TT}{R:Bool→Hp→Prop}:tAnd t u σ H R=t σ H fun c H1=>if c=true then u σ H1 R else R false H1:=rfl
theorem Ztg{t u:TT}{R:Bool→Hp→Prop}:tOr t u σ H R=t σ H fun c H1=>if c=true then R true H1 else u σ H1 R:=rfl
theorem Zro{t:TT}{R:Bool→Hp→Prop}:tNot t σ H R=t σ H fun c H1=>R (!c) H1:=rfl
theorem Zpc{ta tb:TE}:tAndV ta tb σ H Q=ta σ H fun x H1=>∃ c,x = .bl c∧if c=true then tb σ H1 Q else Q (.bl false) H1:=rfl
theorem Zrp{ta tb:TE}:tOrV ta tb σ H Q=ta σ H fun x H1=>∃ c,x = .bl c∧if c=true then Q (.bl true) H1 else tb σ H1 Q:=rfl
theorem Zpd{ta:TE}:tNotV ta σ H Q=ta σ H fun x H1=>∃ c,x = .bl c∧Q (.bl (!c)) H1:=rfl
theorem q_asg{te:TE}{g:TG}:Xm te g D σ H=te σ H fun x H1=>g x σ H1 D.nx:=rfl
theorem Zth{i:Nat}{v:V}{R:L2.St→Hp→Prop}:Y6 i v σ H R=R (σ.set i (some v)) H:=rfl
theorem Zrq{te:TE}:Xj te D σ H=te σ H D.rt:=rfl
theorem Zpe:tRetN D σ H=D.rt .non H:=rfl
theorem Zrr{c:TT}{t u:TS}:Xk c t u D σ H=c σ H fun b H1=>if b=true then t D σ H1 else u D σ H1:=rfl
theorem q_drop{te:TE}:Xp te D σ H=te σ H fun _ H1=>D.nx σ H1:=rfl
theorem Zpf:Xq D σ H=D.nx σ H:=rfl
theorem Zpg{ta:TE}{k:V→Hp→VK→Prop}:tThen ta k σ H Q=ta σ H fun x H1=>k x H1 Q:=rfl
theorem Zph{t:TA}:Zf K t σ H Q=t σ H fun xs H1=>mkT K xs H1 Q:=rfl
theorem Zpi{t:TA}:Zbi t σ H Q=t σ H fun xs H1=>mkL xs H1 Q:=rfl
theorem Zrs{to ti:TE}{t:TSet}{v:V}{R:L2.St→Hp→Prop}:gSub to ti t v σ H R=to σ H fun o H1=>ti σ H1 fun i H2=>t o i v H2 fun H3=>R σ H3:=rfl
theorem Zrt{i j:Nat}{ta:TA}:tPar i j ta D σ H=ta σ H fun vs H1=>∃ v w,vs=[v,w]∧D.nx ((σ.set i (some v)).set j (some w)) H1:=rfl
theorem Zpj{x y:V}{P:V→V→Prop}:(∃ v w,[x,y]=[v,w]∧P v w)=P x y:=by
 apply propext; constructor
 ·rintro⟨v,w,e,h⟩; cases e; exact h
 ·exact fun h=>⟨x,y,rfl,h⟩
theorem Zpk{i j l:Nat}{ta:TA}:tPar3 i j l ta D σ H=ta σ H fun vs H1=>∃ u v w,vs=[u,v,w]∧D.nx (((σ.set i (some u)).set j (some v)).set l (some w)) H1:=rfl
theorem ZnI{x y z:V}{P:V→V→V→Prop}:(∃ u v w,[x,y,z]=[u,v,w]∧P u v w)=P x y z:=by
 apply propext; constructor
 ·rintro⟨u,v,w,e,h⟩; cases e; exact h
 ·exact fun h=>⟨x,y,z,rfl,h⟩
theorem Zti{r:V→List V→Hp→VK→Prop}{to te:TE}:tM1 r to te σ H Q=to σ H fun x H1=>(∃ a,x = .str a)∧te σ H1 fun y H2=>r x [y] H2 Q:=rfl
theorem ZnJ{y:Str}:(∃ z:Str,V.str y = .str z)=True:=eq_true ⟨y,rfl⟩
theorem Ztj{T:String}{r:V→List V→Hp→VK→Prop}{to:TE}{t:TA}:tBM K T r to t σ H Q=to σ H fun x H1=>tyV K T x H1∧t σ H1 fun xs H2=>r x xs H2 Q:=rfl
theorem Ztk{ts:List TE}:tFS ts σ H Q=tJs ts Str.empty σ H fun out H1=>Q (.str out) H1:=rfl
theorem Ztl{t:TE}{ts:List TE}{acc:Str}{R:Str→Hp→Prop}:tJs (t :: ts) acc σ H R=t σ H fun x H1=>∃ y:Str,x = .str y∧(acc++y).length ≤ YM∧tJs ts (acc++y) σ H1 R:=rfl
theorem Zru{acc:Str}{R:Str→Hp→Prop}:tJs [] acc σ H R=R acc H:=rfl
theorem Zrv{y:Str}{P:Str→Prop}:(∃ z:Str,V.str y = .str z∧P z)=P y:=by
 apply propext; constructor
 ·rintro⟨k,e,h⟩; cases e; exact h
 ·exact fun h=>⟨y,rfl,h⟩
theorem Zpl{te:TE}:Zrk te σ H Q=te σ H fun x H1=>∃ y:Str,x = .str y∧y.length ≤ YM∧Q (.str y) H1:=rfl
theorem Zk5{x:Str}{a:YF}{l:List Str}(h:SqT K H a (l.map V.str))(q:Q (.bl (decide (x∈l))) H):Zi9 K (.str x) (.ref a) H Q:=.inl ⟨a,_,rfl,.inr h,rfl,flat_strs l,by simpa[Zge]using q⟩
theorem Znh{x:Str}{a:YF}{l:List Str}(h:SqT K H a (l.map V.str))(q:Q (.bl (!decide (x∈l))) H):ZbD K (.str x) (.ref a) H Q:=.inl ⟨a,_,rfl,.inr h,rfl,flat_strs l,by simpa[Zge]using q⟩
theorem Zni{x:Str}{a:YF}{l:List Str}(h:SqL K H a (l.map V.str))(q:Q (.bl (!decide (x∈l))) H):ZbD K (.str x) (.ref a) H Q:=.inl ⟨a,_,rfl,.inl h,rfl,flat_strs l,by simpa[Zge]using q⟩
theorem Zk6{x a b:Str}{p:YF}(h:SqT K H p [.str a,.str b])(q:Q (.bl (decide (x=a) || decide (x=b))) H):Zi9 K (.str x) (.ref p) H Q :=
 Zk5 (l:=[a,b]) h (by simpa[Bool.decide_or]using q)
theorem ZnK{x a b c:Str}{p:YF}(h:SqT K H p [.str a,.str b,.str c])(q:Q (.bl (decide (x=a) || decide (x=b) || decide (x=c))) H):Zi9 K (.str x) (.ref p) H Q :=
 Zk5 (l:=[a,b,c]) h (by simpa[Bool.decide_or,Bool.or_assoc]using q)
theorem ZnL{l b:YF}{xs ys:List V}(h:H l=some (.lst xs))(h2:H b=some (.lst ys))(z:xs.length + ys.length ≤ YM)(q:∀ H',Zb [l] H H'→H' l=some (.lst (xs++ys))→Q (.ref l) H'):Zhi (.ref l) (.ref b) H Q:=.inr (Zri h h2 z q)
theorem q_aug{i:Nat}{te:TE}{ti:TIp}:tAug i te ti D σ H = ∃ x,σ[i]? = some (some x)∧te σ H fun y H1=>ti x y H1 fun z H2=>D.nx (σ.set i (some z)) H2:=rfl
theorem Zrw{v:V}{P:V→Prop}:(∃ x,some (some v)=some (some x)∧P x)=P v:=by
 apply propext; constructor
 ·rintro⟨x,e,h⟩; cases e; exact h
 ·exact fun h=>⟨v,rfl,h⟩
theorem Zpm{tl:TE}{R:It→Hp→Prop}:Zg4 K tl σ H R=tl σ H fun x H1=>∃ a,x = .ref a∧((∃ xs,SqL K H1 a xs)∧R (Itl K a) H1∨(∃ xs,SqT K H1 a xs)∧R (Itt K a) H1):=rfl
theorem Zrx{a:YF}{P:YF→Prop}:(∃ b,V.ref a = .ref b∧P b)=P a:=by
 apply propext; constructor
 ·rintro⟨k,e,h⟩; cases e; exact h
 ·exact fun h=>⟨a,rfl,h⟩
theorem ZnM{te:TE}{cs:List (Option (List PEl)×TS)}:Zil K te cs D σ H=te σ H fun x H1=>∃ a xs,x = .ref a∧SqT K H1 a xs∧Zdk cs xs D σ H1:=rfl
theorem Zry{R:Bool→Hp→Prop}:tYes σ H R=R true H:=rfl
theorem Zpn{A B:Prop}:(if true=true then A else B)=A:=by simp
theorem Zpo{A B:Prop}:(if false=true then A else B)=B:=by simp
theorem ZnN{p q A T:Prop} [Decidable p] [Decidable q] (ha:p→q→A) (t:T):if decide p=true then(if decide q=true then A else T)else T:=by
 by_cases hp:p
 ·refine Zmc hp ?_
  by_cases hq:q
  ·exact Zmc hq (ha hp hq)
  ·exact Zk2 hq t
 ·exact Zk2 hp t
theorem Zpp{α : Type}{x y : α}{l:List α}:(x :: l).set 0 y=y :: l:=rfl
theorem Zpq{α : Type}{x y : α}{l:List α}{i:Nat}:(x :: l).set (i + 1) y=x :: l.set i y:=rfl
theorem Zfd:∀ {a b:List Char},a.map Char.toNat=b.map Char.toNat→a=b
 | [],[],_=>rfl
 | [],_ :: _,h=>by simp at h
 | _ :: _,[],h=>by simp at h
 | x :: a,y :: b,h=>by
   simp only[Yr,List.cons.injEq]at h
   rw[Zfd h.2,Char.ext (UInt32.toNat_inj.mp h.1)]
theorem Zrz{a b:String}:(YP a=YP b)=(a=b):=by
 apply propext; constructor
 ·intro h
  rw[Str.ofString_eq_toList,Str.ofString_eq_toList]at h
  have h2:=congrArg (fun s:Str=>s.cps.toList) h
  simp only at h2
  exact String.toList_inj.mp (Zfd h2)
 ·exact fun h=>by rw[h]
def Zje(J:It)(g:TG)(tb:TS)(D:Ends)(σ:L2.St)(H:Hp):Prop:=∃ W:Nat→Nat→L2.St→Hp→Prop,(∃ m,W 0 m σ H)∧∀ i m σ H,W i m σ H →
 (J.stop i H∧D.nx σ H)∨(J.go i H∧∃ N:L2.St→Hp→Prop,(∀ σ' H',N σ' H'→∃ m',m' < m∧W (i + 1) m' σ' H')∧∀ x H',J.yld i H x H'→g x σ H' fun σ2 H2=>tb { D with nx:=N,ct:=N,bk:=D.nx } σ2 H2)
theorem ZrA{wi:TI}{g:TG}{tb:TS}:tFor wi g tb D σ H=wi σ H fun J H1=>Zje J g tb D σ H1:=rfl
theorem Zpr{a:YF}{xs:List V}{g:TG}{tb:TS}(Pv:Nat→L2.St→Hp→Prop)(h0:Pv 0 σ H)(hl:∀ i σ H,i ≤ xs.length→Pv i σ H→SqL K H a xs)
  (hs:∀ i x σ H,xs[i]? = some x→Pv i σ H→g x σ H fun σ2 H2=>tb { D with nx:=Pv (i + 1),ct:=Pv (i + 1),bk:=D.nx } σ2 H2) (hd:∀ σ H,Pv xs.length σ H→D.nx σ H):Zje (Itl K a) g tb D σ H:=for_list Pv h0 hl hs hd
theorem Znj{lo:Int}{n:Nat}{g:TG}{tb:TS}(Pv:Nat→L2.St→Hp→Prop)(h0:Pv 0 σ H)
  (hs:∀ i σ H,i < n→Pv i σ H→g (.int (lo + i)) σ H fun σ2 H2=>tb { D with nx:=Pv (i + 1),ct:=Pv (i + 1),bk:=D.nx } σ2 H2) (hd:∀ σ H,Pv n σ H→D.nx σ H):Zje (Itr lo n) g tb D σ H:=for_range Pv h0 hs hd
theorem Zps{ta:TA}{R:It→Hp→Prop}:iRng1 ta σ H R=ta σ H fun vs H1=>∃ j:Int,vs=[.int j]∧-(2 ^ 62) ≤ j∧j < 2 ^ 62∧R (Itr 0 j.toNat) H1:=rfl
theorem ZrB{i:Int}{P:Int→Prop}:(∃ j,[V.int i]=[.int j]∧P j)=P i:=by
 apply propext; constructor
 ·rintro⟨j,e,h⟩; cases e; exact h
 ·exact fun h=>⟨i,rfl,h⟩
def Zk7(J:It)(g:TG)(tt:TT)(te:TE)(vs:List Nat)(σ:L2.St)(H1:Hp)(Q:VK):Prop:=∀ D,H1 D=none→∃ W:Nat→Nat→Hp→Prop,(∃ m,W 0 m (upd H1 D (.lst [])))∧∀ i m H,W i m H →
 (J.stop i H∧Q (.ref D) H)∨(J.go i H∧∃ Nx:Hp→Prop,(∀ H',Nx H'→∃ m',m' < m∧W (i + 1) m' H')∧∀ x H',J.yld i H x H'→g x (wipe σ vs) H' fun σ2 H2=>wipe σ2 vs=wipe σ vs∧tt σ2 H2 fun b H3 =>
  if b=true then te σ2 H3 fun y H4=>∃ acc,H4 D=some (.lst acc)∧acc.length < YM∧Nx (upd H4 D (.lst (acc++[y])))else Nx H3)
theorem Ztm{wi:TI}{g:TG}{tt:TT}{te:TE}{vs:List Nat}:tLc wi g tt te vs σ H Q=wi σ H fun J H1=>Zk7 J g tt te vs σ H1 Q:=rfl
theorem ZhE{J:It}{g:TG}{tt:TT}{te:TE}{vs:List Nat}(n:Nat)(Pv:YF→Nat→Hp→Prop)(h0:∀ D H2,H D=none→Zb [] H H2→H2 D=some (.lst [])→Pv D 0 H2)
  (hstop:∀ D H2,Pv D n H2→J.stop n H2) (hgo:∀ D i H2,i < n→Pv D i H2→J.go i H2)
  (hs:∀ D i H2 x H3,H D=none→i < n→Pv D i H2→J.yld i H2 x H3→g x (wipe σ vs) H3 fun σ2 H4=>wipe σ2 vs=wipe σ vs∧tt σ2 H4 fun b H5 =>
   if b=true then te σ2 H5 fun y H6=>∃ acc,H6 D=some (.lst acc)∧acc.length < YM∧Pv D (i + 1) (upd H6 D (.lst (acc++[y])))else Pv D (i + 1) H5)
  (hd:∀ D H2,H D=none→Pv D n H2→Q (.ref D) H2):Zk7 J g tt te vs σ H Q:=by
 intro D hD
 refine⟨fun i m H2=>m=n - i∧i ≤ n∧Pv D i H2,⟨n,by simp,YR _,h0 D _ hD (Zb.new hD) Y_⟩,?_⟩
 rintro i m H2 ⟨rfl,hi,p⟩
 by_cases hlt:i < n
 ·exact .inr ⟨hgo D i H2 hlt p,Pv D (i + 1),fun H' p'=>⟨n - (i + 1),by omega,rfl,hlt,p'⟩,fun x H3 y=>hs D i H2 x H3 hD hlt p y⟩
 ·have e:i=n:=by omega
  subst e
  exact .inl ⟨hstop D H2 p,hd D H2 hD p⟩
theorem ZrC{σ:L2.St}:wipe σ [] = σ:=rfl
theorem ZrD{σ:L2.St}{v:Nat}{vs:List Nat}:wipe σ (v :: vs)=(wipe σ vs).set v none:=rfl
theorem ZrE{xs:List V}:Zdk [] xs D σ H=D.nx σ H:=rfl
theorem ZrF{t:TS}{r:List (Option (List PEl)×TS)}{xs:List V}:Zdk ((none,t) :: r) xs D σ H=t D σ H:=rfl
theorem Ztn{es:List PEl}{t:TS}{r:List (Option (List PEl)×TS)}{xs:List V}:Zdk ((some es,t) :: r) xs D σ H=if es.length=xs.length then litOk es xs∧csO (pmV es xs) t D σ H (Zdk r xs D σ H)else Zdk r xs D σ H:=by
 conv=>lhs; unfold Zdk
 unfold csO
 cases pmV es xs <;> rfl
theorem ZrG{bs:List (Nat×V)}{t:TS}{R:Prop}:csO (some bs) t D σ H R=t D (ZfT σ bs) H:=rfl
theorem ZrH{t:TS}{R:Prop}:csO none t D σ H R=R:=rfl
theorem ZrI{vs:List V}:pmV [] vs=some []:=by unfold pmV; rfl
theorem ZrJ{x y:Str}{ps:List PEl}{vs:List V}:pmV (.lit x :: ps) (.str y :: vs)=if y=x then pmV ps vs else none:=by
 rw[pmV]
 by_cases e:y=x
 ·rw[if_pos e,if_pos (congrArg V.str e)]
 ·rw[if_neg e,if_neg fun z=>e (V.str.inj z)]
theorem ZrK{i:Nat}{v:V}{ps:List PEl}{vs:List V}:pmV (.cap i :: ps) (v :: vs)=(pmV ps vs).map ((i,v) :: ·):=by rw[pmV]
theorem ZrL{v:V}{ps:List PEl}{vs:List V}:pmV (.any :: ps) (v :: vs)=pmV ps vs:=by rw[pmV]
theorem ZrM{vs:List V}:litOk [] vs=True:=by unfold litOk; rfl
theorem ZrN{x y:Str}{ps:List PEl}{vs:List V}:litOk (.lit x :: ps) (.str y :: vs)=litOk ps vs:=by
 rw[litOk]; exact propext ⟨fun h=>h.2,fun h=>⟨⟨y,rfl⟩,h⟩⟩
theorem ZrO{i:Nat}{v:V}{ps:List PEl}{vs:List V}:litOk (.cap i :: ps) (v :: vs)=litOk ps vs:=by rw[litOk]; intro x h; cases h
theorem ZrP{v:V}{ps:List PEl}{vs:List V}:litOk (.any :: ps) (v :: vs)=litOk ps vs:=by rw[litOk]; intro x h; cases h
theorem ZrQ:ZfT σ [] = σ:=rfl
theorem ZrR{i:Nat}{v:V}{bs:List (Nat×V)}:ZfT σ ((i,v) :: bs)=ZfT (σ.set i (some v)) bs:=rfl
theorem Zpt{i j:Int}:rAdd K (.int i) (.int j) H Q=Q (.int (i + j)) H:=by
 apply propext; constructor
 ·rintro(⟨a,b,e1,e2,h⟩ | ⟨a,b,e1,_⟩ | ⟨a,b,_,_,e1,_⟩ | ⟨a,b,_,_,e1,_⟩) <;> cases e1
  cases e2; exact h
 ·exact Zo1
theorem Zpu{i j:Str}:rAdd K (.str i) (.str j) H Q=(i.length + j.length ≤ YM∧Q (.str (i++j)) H):=by
 apply propext; constructor
 ·rintro(⟨a,b,e1,e2,h⟩ | ⟨a,b,e1,e2,h⟩ | ⟨a,b,_,_,e1,_⟩ | ⟨a,b,_,_,e1,_⟩) <;> cases e1
  cases e2; exact h
 ·exact fun h=>Zo2 h.1 h.2
theorem Zto{g:Int→Int→V}{i j:Int}:rI0 g (.int i) (.int j) H Q=Q (g i j) H:=by
 apply propext; constructor
 ·rintro⟨a,b,e1,e2,h⟩; cases e1; cases e2; exact h
 ·exact fun h=>⟨i,j,rfl,rfl,h⟩
theorem q_i{C:Int→Int→Prop}{g:Int→Int→V}{i j:Int}:rI C g (.int i) (.int j) H Q=(C i j∧Q (g i j) H):=by
 apply propext; constructor
 ·rintro⟨a,b,e1,e2,h⟩; cases e1; cases e2; exact h
 ·exact fun h=>⟨i,j,rfl,rfl,h⟩
theorem q_u{g:Int→V}{i:Int}:rU g (.int i) H Q=Q (g i) H:=by
 apply propext; constructor
 ·rintro⟨a,e1,h⟩; cases e1; exact h
 ·exact fun h=>⟨i,rfl,h⟩
theorem dec_str{a b:Str}:decide (V.str a=V.str b)=decide (a=b):=by
 by_cases q:a=b
 ·rw[decide_eq_true q,decide_eq_true (congrArg V.str q)]
 ·rw[decide_eq_false q,decide_eq_false fun z=>q (V.str.inj z)]
theorem dec_int{a b:Int}:decide (V.int a=V.int b)=decide (a=b):=by
 by_cases q:a=b
 ·rw[decide_eq_true q,decide_eq_true (congrArg V.int q)]
 ·rw[decide_eq_false q,decide_eq_false fun z=>q (V.int.inj z)]
theorem ZrS{a b:Str}:ZbB K (.str a) (.str b) H Q=Q (.bl (decide (a=b))) H:=by
 apply propext; constructor
 ·rintro(⟨_,h⟩ | ⟨d,e,hd,he,_,_,h⟩)
  ·rw[dec_str]at h; exact h
  ·cases hd; cases he
   have e:PyData.eqv (.str a) (.str b)=decide (a=b):=by simp[PyData.eqv]; rfl
   rw[e]at h; exact h
 ·exact Zo3
theorem ZrT{a b:Str}:Zi8 K (.str a) (.str b) H Q=Q (.bl (!decide (a=b))) H:=by
 apply propext; constructor
 ·rintro(⟨_,h⟩ | ⟨d,e,hd,he,_,_,h⟩)
  ·rw[dec_str]at h; exact h
  ·cases hd; cases he
   have e:PyData.eqv (.str a) (.str b)=decide (a=b):=by simp[PyData.eqv]; rfl
   rw[e]at h; exact h
 ·exact Zrc
theorem ZrU{a b:Int}:ZbB K (.int a) (.int b) H Q=Q (.bl (decide (a=b))) H:=by
 apply propext; constructor
 ·rintro(⟨_,h⟩ | ⟨d,e,hd,he,_,_,h⟩)
  ·rw[dec_int]at h; exact h
  ·cases hd; cases he
   have e:PyData.eqv (.int a) (.int b)=decide (a=b):=by simp[PyData.eqv]; rfl
   rw[e]at h; exact h
 ·exact Zrb
theorem ZrV{a b:Int}:Zi8 K (.int a) (.int b) H Q=Q (.bl (!decide (a=b))) H:=by
 apply propext; constructor
 ·rintro(⟨_,h⟩ | ⟨d,e,hd,he,_,_,h⟩)
  ·rw[dec_int]at h; exact h
  ·cases hd; cases he
   have e:PyData.eqv (.int a) (.int b)=decide (a=b):=by simp[PyData.eqv]; rfl
   rw[e]at h; exact h
 ·exact Zrd
theorem Zpv{i:Int}:Zfc [.int i] H Q=Q (.int i) H:=by
 apply propext; constructor
 ·rintro(⟨a,e,h⟩ | ⟨a,e,h⟩) <;> cases e; exact h
 ·exact Zrf
theorem ZnO{b:Bool}:Zfc [.bl b] H Q=Q (.int (if b then 1 else 0)) H:=by
 apply propext; constructor
 ·rintro(⟨a,e,h⟩ | ⟨a,e,h⟩) <;> cases e; exact h
 ·exact Zo4
theorem Zpw{i:Int}:ZoZ [.int i] H Q=(i.natAbs.log2 < 1920∧Q (.str (toString i:String)) H):=by
 apply propext; constructor
 ·rintro⟨a,e,h⟩; cases e; exact h
 ·exact fun h=>Zrg h.1 h.2
theorem Zpx{i j:Int}:rMax2 [.int i,.int j] H Q=Q (.int (if j > i then j else i)) H:=by
 apply propext; constructor
 ·rintro⟨a,b,e,h⟩; cases e; exact h
 ·exact Zrh
end
open Sem (wp)
open AutoSeq1 (wpAny_loadPart')
section
variable {prog:YG} {w:YH} {A:Around} {E:YI→YJ→Prop} {s:YJ}
theorem Zku{it t:YF}{i:Nat}{items:Array YI}{x:YI}{Q:YI→YJ→Prop}(hit:s.heap.IsTupleIter it t i)(ht:s.heap.IsTuple t items)(hx:items[i]? = some x)
  (k:∀ h',h'.IsTupleIter it t (i + 1)→Heap.SameBut it s.heap h'→Q x { s with heap:=h' }):wpAny (model prog w) A (Builtin.SmallTypes.nextOf (.ref it)) Q E s:=by
 obtain⟨o,e1,e2,e3⟩:=id hit
 obtain⟨u,f1,_,m,f2⟩:=ht
 unfold Builtin.SmallTypes.nextOf
 refine YD (wpAny_callSpecial?_slot (name:=YP "__next__") hit.typeIs F.slot_tuple_iterator_next (wpAny_call_entry F.slot_tuple_iterator_next hit.typeIs F.entry_tuple_iterator_next ?_ (F.args_tuple_iterator_next_1 _)))
 show wpAny _ _ (field (.ref it) 0 >>= _) _ _ s
 refine YD (wpAny_field e1 e3 (x:=.ref t) rfl ?_)
 show wpAny _ _ (if (Value.ref t == Value.none)=true then _ else _) _ _ s
 rw[if_neg (show ¬ ((Value.ref t == Value.none)=true)from Bool.false_ne_true)]
 show wpAny _ _ (field (.ref it) 1 >>= _) _ _ s
 refine YD (wpAny_field e1 e3 (x:=.int i 0) rfl ?_)
 show wpAny _ _ (seqItems? (.ref t) >>= _) _ _ s
 refine YD (wpAny_seqItems f1 f2 ?_)
 simp only[Int.toNat_natCast,hx]
 refine YD (wpAny_setField e1 e3 (by simp) (YL ⟨x,rfl,YL (k _ ?_ (Heap.SameBut.update ..))⟩))
 exact⟨_,Heap.get?_update_self _ e1 (Obj.isFreed_of_fields (Obj.data_mapFields e3 _)),(Obj.cls_mapFields ..).trans e2,by rw[Obj.data_mapFields e3]; simp[rawInt]⟩
theorem Zk8{it t:YF}{i:Nat}{items:Array YI}{Q:YI→YJ→Prop}(hh:A.handled=none)(hit:s.heap.IsTupleIter it t i)(ht:s.heap.IsTuple t items)(hx:items[i]? = none)
  (k:∀ h' e,Heap.ExtBut it s.heap h'→(∃ o,h'.get? e=some o∧o.cls = .type "StopIteration")→E (.ref e) { s with heap:=h' }):wpAny (model prog w) A (Builtin.SmallTypes.nextOf (.ref it)) Q E s:=by
 obtain⟨o,e1,e2,e3⟩:=id hit
 obtain⟨u,f1,_,m,f2⟩:=ht
 unfold Builtin.SmallTypes.nextOf
 refine YD (wpAny_callSpecial?_slot (name:=YP "__next__") hit.typeIs F.slot_tuple_iterator_next (wpAny_call_entry F.slot_tuple_iterator_next hit.typeIs F.entry_tuple_iterator_next ?_ (F.args_tuple_iterator_next_1 _)))
 show wpAny _ _ (field (.ref it) 0 >>= _) _ _ s
 refine YD (wpAny_field e1 e3 (x:=.ref t) rfl ?_)
 show wpAny _ _ (if (Value.ref t == Value.none)=true then _ else _) _ _ s
 rw[if_neg (show ¬ ((Value.ref t == Value.none)=true)from Bool.false_ne_true)]
 show wpAny _ _ (field (.ref it) 1 >>= _) _ _ s
 refine YD (wpAny_field e1 e3 (x:=.int i 0) rfl ?_)
 show wpAny _ _ (seqItems? (.ref t) >>= _) _ _ s
 refine YD (wpAny_seqItems f1 f2 ?_)
 simp only[Int.toNat_natCast,hx]
 refine YD (wpAny_rule (YD (wpAny_setField e1 e3 (by simp) ?_)))
 show wpAny _ _ (newExc (.type "StopIteration") [] >>= _) _ _ _
 refine YD ?_
 simp only[newExc,newTuple]
 refine YD (wpAny_newObj_type ?_ (by size_fits))
 refine YD (m:=firstArgMember _ _) (wpAny_of_eq (a:=Value.none) (by first | rfl | (simp only[firstArgMember]; rfl)) ?_)
 refine wpAny_newObj_type ?_ (by size_fits)
 simp only[raiseNew]
 refine YD (wpAny_handled ?_)
 first | rw[show A.in1.handled=none from hh] | rw[hh]
 refine YD (YL (wpAny_throw ?_))
 exact k _ _ (((Heap.SameBut.update ..).extBut.push _).push _) ⟨_,YO _ rfl,rfl⟩
theorem ZhF{e it t:YF}{i:Nat}{items:Array YI}{x old:YI}{Q:YI→YJ→Prop}(he:IsEnum s.heap e it i old)(hit:s.heap.IsTupleIter it t i)(ht:s.heap.IsTuple t items)(hx:items[i]? = some x)(hne:e≠it)
  (k:∀ h',IsEnumOut h' e it ((i:Int) + 1) x s.heap.objs.size→h'.IsTupleIter it t (i + 1)→h'.get? s.heap.objs.size=some { cls:=.type "tuple",data:=.seq #[.int i s.toks,x] }→h'.objs.size=s.heap.objs.size + 1 →
   (∀ b o,b≠e→b≠it→s.heap.get? b=some o→h'.get? b=some o)→Q (.ref s.heap.objs.size) { s with heap:=h',toks:=s.toks + 1 }) :
  wpAny (model prog w) A (Builtin.«enumerate.__next__» ⟨[.ref e],[]⟩) (fun fin s'=>∃ v,fin = .done (.ret v)∧Q v s') E s:=by
 obtain⟨hp,g,d,tk,os⟩:=s
 show wpAny _ _ (field (.ref e) 2 >>= _) _ _ _
 refine YD (wpAny_field he rfl (x:=.ref it) rfl ?_)
 refine YD (Zku hit ht hx fun ha ia sa=>?_)
 replace sa:Heap.SameBut it hp ha:=sa
 have ea:IsEnum ha e it i old:=(sa.2 e hne).trans he
 show wpAny _ _ (field (.ref e) 3 >>= _) _ _ ⟨ha,g,d,tk,os⟩
 refine YD (wpAny_field ea rfl (x:=rawInt i) rfl ?_)
 show wpAny _ _ (field (.ref e) 4 >>= _) _ _ ⟨ha,g,d,tk,os⟩
 refine YD (wpAny_field ea rfl (x:=.none) rfl ?_)
 show wpAny _ _ (mkInt i >>= _) _ _ ⟨ha,g,d,tk,os⟩
 refine YD (wpAny_mkInt ?_)
 show wpAny _ _ (setField (.ref e) 3 (rawInt ((i:Int) + 1)) >>= _) _ _ ⟨ha,g,d,tk + 1,os⟩
 refine YD (wpAny_setField_rec ea (by simp) fun hb eb sb=>?_)
 replace sb:Heap.SameBut e ha hb:=sb
 replace eb:IsEnum hb e it ((i:Int) + 1) old:=eb
 show wpAny _ _ (setField (.ref e) 4 .none >>= _) _ _ ⟨hb,g,d,tk + 1,os⟩
 refine YD (wpAny_setField_rec eb (by simp) fun hc ec sc=>?_)
 replace sc:Heap.SameBut e hb hc:=sc
 replace ec:IsEnum hc e it ((i:Int) + 1) old:=ec
 show wpAny _ _ (newTuple [.int i tk,x] >>= _) _ _ ⟨hc,g,d,tk + 1,os⟩
 refine YD (wpAny_newTuple ?_)
 have ed:IsEnum (hc.push { cls:=.type "tuple",data:=.seq #[.int i tk,x] }) e it ((i:Int) + 1) old:=YN _ ec
 generalize hhd:hc.push { cls:=.type "tuple",data:=.seq #[.int i tk,x] } = hd at ed
 have hsz:hc.objs.size=hp.objs.size:=by rw[sc.1,sb.1,sa.1]
 have hel:e < hp.objs.size:=Heap.lt_size he
 have td:hd.get? hp.objs.size=some { cls:=.type "tuple",data:=.seq #[.int i tk,x] }:=by rw[← hhd,← hsz]; exact YO _ rfl
 have zd:hd.objs.size=hp.objs.size + 1:=by rw[← hhd,Heap.size_push,hsz]
 have kd:∀ b o,b≠e→b≠it→hp.get? b=some o→hd.get? b=some o:=fun b o n1 n2 q=>by
  rw[← hhd]; exact YN _ (sc.extBut b o n1 (sb.extBut b o n1 (sa.extBut b o n2 q)))
 have idd:hd.IsTupleIter it t (i + 1):=by
  rw[← hhd]; obtain⟨o,ho,r⟩:=(ia.extBut sb.extBut (Ne.symm hne)).extBut sc.extBut (Ne.symm hne); exact⟨o,YN _ ho,r⟩
 show wpAny _ _ (Builtin.SmallTypes.ownedTupleIsFree (.ref e) >>= _) _ _ ⟨hd,g,d,tk + 1,os⟩
 rw[hsz]
 clear hhd ec sc eb sb ea sa ia hsz hc hb ha
 refine YD ?_
 ·unfold Builtin.SmallTypes.ownedTupleIsFree
  refine YD (wpAny_field ed rfl (x:=.none) rfl (YL ?_))
  simp only[if_true]
  refine YD (wpAny_rule ?_)
  refine YD (wpAny_field ed rfl (x:=old) rfl ?_)
  refine YD (wpAny_setField_rec ed (by simp) fun hf ef sf=>?_)
  replace sf:Heap.SameBut e hd hf:=sf
  replace ef:IsEnum hf e it ((i:Int) + 1) x:=ef
  show wpAny _ _ (Builtin.SmallTypes.ownedTupleHandOut (.ref e) (.ref hp.objs.size) >>= _) _ _ ⟨hf,g,d,tk + 1,os⟩
  refine YD ?_
  ·unfold Builtin.SmallTypes.ownedTupleHandOut
   refine YD (wpAny_setField_rec ef (by simp) fun hg eg sg=>?_)
   replace sg:Heap.SameBut e hf hg:=sg
   replace eg:IsEnumOut hg e it ((i:Int) + 1) x hp.objs.size:=eg
   refine wpAny_setField_rec eg (by simp) fun hi ei si=>?_
   replace si:Heap.SameBut e hg hi:=si
   replace ei:IsEnumOut hi e it ((i:Int) + 1) x hp.objs.size:=ei
   refine YD (wpAny_letGo (YL ⟨_,rfl,k hi ei ?_ ?_ ?_ ?_⟩))
   ·exact((idd.extBut sf.extBut (Ne.symm hne)).extBut sg.extBut (Ne.symm hne)).extBut si.extBut (Ne.symm hne)
   ·exact si.extBut _ _ (Nat.ne_of_gt hel) (sg.extBut _ _ (Nat.ne_of_gt hel) (sf.extBut _ _ (Nat.ne_of_gt hel) td))
   ·rw[si.1,sg.1,sf.1,zd]
   ·exact fun b o n1 n2 q=>si.extBut b o n1 (sg.extBut b o n1 (sf.extBut b o n1 (kd b o n1 n2 q)))
theorem Zin{e it t:YF}{i:Nat}{items:Array YI}{x old:YI}{Q:Option YI→YJ→Prop}(he:IsEnum s.heap e it i old)(hit:s.heap.IsTupleIter it t i)(ht:s.heap.IsTuple t items)(hx:items[i]? = some x)(hne:e≠it)
  (k:∀ h',IsEnumOut h' e it ((i:Int) + 1) x s.heap.objs.size→h'.IsTupleIter it t (i + 1)→h'.get? s.heap.objs.size=some { cls:=.type "tuple",data:=.seq #[.int i s.toks,x] }→h'.objs.size=s.heap.objs.size + 1 →
   (∀ b o,b≠e→b≠it→s.heap.get? b=some o→h'.get? b=some o)→Q (some (.ref s.heap.objs.size)) { s with heap:=h',toks:=s.toks + 1 }):wpAny (model prog w) A (pyNext (.ref e)) Q E s:=by
 have hT:s.TypeIs (.ref e) "enumerate" := ⟨_,he,rfl⟩
 unfold pyNext
 exact YD (wpAny_attempt (wpAny_callSpecial?_slot (name:=YP "__next__") hT F.slot_enumerate_next (wpAny_call_entry F.slot_enumerate_next hT F.entry_enumerate_next
   (ZhF he hit ht hx hne fun h' a b c d q=>YL (k h' a b c d q)) (F.args_enumerate_next_1 _))))
theorem Zgp{e it t:YF}{i:Nat}{items:Array YI}{old:YI}{Q:Option YI→YJ→Prop}(hh:A.handled=none)(he:IsEnum s.heap e it i old)(hit:s.heap.IsTupleIter it t i)(ht:s.heap.IsTuple t items)(hx:items[i]? = none)
  (k:∀ h',Heap.ExtBut it s.heap h'→Q none { s with heap:=h' }):wpAny (model prog w) A (pyNext (.ref e)) Q E s:=by
 have hT:s.TypeIs (.ref e) "enumerate" := ⟨_,he,rfl⟩
 unfold pyNext
 refine YD (wpAny_attempt (wpAny_callSpecial?_slot (name:=YP "__next__") hT F.slot_enumerate_next (wpAny_call_entry F.slot_enumerate_next hT F.entry_enumerate_next ?_ (F.args_enumerate_next_1 _))))
 show wpAny _ _ (field (.ref e) 2 >>= _) _ _ _
 refine YD (wpAny_field he rfl (x:=.ref it) rfl ?_)
 refine YD (Zk8 hh hit ht hx fun h' z he' hz=>?_)
 obtain⟨o,ho,hc⟩:=hz
 refine YD (wpAny_isInstance (T := "StopIteration") (b:=true) ⟨o,ho,hc⟩ isSubtype_stop ?_)
 exact YL (k _ he')
theorem Zk9(t:YF)(items:Array YI)(n:Nat)(dct:Option YF)(sl:Array (Option YI)) :
  Meets (Builtin.«enumerate.__new__» ⟨[.type "enumerate",.ref t],[]⟩) (fun _ R s=>s.heap.get? t=some { cls:=.type "tuple",dict:=dct,data:=.seq items n,slots:=sl } ∧
   R (.ok (.ret (.ref (s.heap.push { cls:=.type "tuple_iterator",data:=.fields #[.ref t,.int 0 0] }).objs.size)))
     { s with heap:=(s.heap.push { cls:=.type "tuple_iterator",data:=.fields #[.ref t,.int 0 0] }).push { cls:=.type "enumerate",data:=.fields #[.none,.bool false,.ref s.heap.objs.size,rawInt 0,.none,.none] } }) :=
 .of_wp fun prog w A R s h=>by
  obtain⟨hp,g,d,tk,os⟩:=s; obtain⟨hl,h⟩:=h
  have hsub:=sub_enumerate
  have hL:Heap.IsTuple (Shared.heap ⟨hp,g,d,tk,os⟩) t items:=⟨_,hl,rfl,n,rfl⟩
  wp_walk using wpAny_loadPart' hl
  refine wpAny_stack_any fun st=>YL ?_
  split
  ·rename_i c _ _ _ _ _
   cases (c == Value.type "enumerate")
   ·wp_walk using wpAny_loadPart' hl,wpAny_pyIter_tuple hL
    exact⟨_,rfl,h⟩
   ·wp_walk using wpAny_loadPart' hl,wpAny_pyIter_tuple hL
    exact⟨_,rfl,h⟩
  ·wp_walk using wpAny_loadPart' hl,wpAny_pyIter_tuple hL
   exact⟨_,rfl,h⟩
theorem Zkv{t:YF}{items:Array YI}{Q:YI→YJ→Prop}(hL:s.heap.IsTuple t items)
  (k:∀ h',IsEnum h' (s.heap.objs.size + 1) s.heap.objs.size 0 .none→h'.IsTupleIter s.heap.objs.size t 0→h'.objs.size=s.heap.objs.size + 2→(∀ b o,s.heap.get? b=some o→h'.get? b=some o)→Q (.ref (s.heap.objs.size + 1)) { s with heap:=h' }) :
  wpAny (model prog w) A (call (.type "enumerate") [.ref t]) Q E s:=by
 obtain⟨⟨c,dct,dt,sl⟩,hl,hc,n,hd⟩:=hL
 replace hc:c = .type "tuple" := hc
 replace hd:dt = .seq items n:=hd
 subst hc hd
 refine callType_new F.called_enumerate (by decide) (F.typeCall_enumerate_1 _) (F.newCall_enumerate_1 _) (fun obj=>F.args_object_init_2 obj _) F.entry_enumerate_new (Zk9 t items n dct sl) ⟨hl,?_⟩
 have hz:(s.heap.push { cls:=.type "tuple_iterator",data:=.fields #[.ref t,.int 0 0] }).objs.size=s.heap.objs.size + 1:=Heap.size_push ..
 show _∧_
 rw[hz]
 have he:IsEnum ((s.heap.push { cls:=.type "tuple_iterator",data:=.fields #[.ref t,.int 0 0] }).push { cls:=.type "enumerate",data:=.fields #[.none,.bool false,.ref s.heap.objs.size,rawInt 0,.none,.none] }) (s.heap.objs.size + 1) s.heap.objs.size 0 .none:=by
  have q:=YO (s.heap.push { cls:=.type "tuple_iterator",data:=.fields #[.ref t,.int 0 0] }) (o:={ cls:=.type "enumerate",data:=.fields #[.none,.bool false,.ref s.heap.objs.size,rawInt 0,.none,.none] }) rfl
  rw[hz]at q; exact q
 exact⟨⟨_,he,rfl⟩,k _ he ⟨_,YN _ (YO _ rfl),rfl,rfl⟩ (by rw[Heap.size_push,hz]) fun b o q=>YN _ (YN _ q)⟩
end
def ZqV(K:YC)(a:YF):It :=
 ⟨fun i H=>∃ (xs:List V) (x:V),SqT K H a xs∧xs[i]? = some x,fun i H v H'=>∃ T x,v = .ref T∧H T=none∧H'=upd H T (.tup [.int (i:Nat),x])∧∀ xs,SqT K H a xs→xs[i]? = some x,fun i H=>∃ xs:List V,SqT K H a xs∧xs.length ≤ i⟩
theorem Zkw{P:YG}{w:YH}{K:YC}{elts:List Expr}{kk:Nat}{tpos:Pos}(a e it:YF) :
  Turn P w K (.Tuple elts kk tpos) (ZqV K a) [e,it] e (fun i h=>(∃ old,IsEnum h e it ((i:Nat):Int) old)∧h.IsTupleIter it a i∧e≠it) where
 mem:=by simp
 obj:=fun i h st b hb=>by
  obtain⟨⟨old,he⟩,⟨o,ho,hc,hd⟩,_⟩:=st
  have z:b=e∨b=it:=by simpa using hb
  rcases z with rfl | rfl
  ·exact⟨_,he,fun v q=>nomatch q⟩
  ·exact⟨o,ho,fun v q=>by rw[hd]at q; cases q⟩
 keep:=fun i h h' st k=>let ⟨⟨old,he⟩,hi,hne⟩:=st; ⟨⟨old,k e (by simp) _ he⟩,hi.at fun o q=>k it (by simp) o q,hne⟩
 item:=by
  intro X hP hw hK hc i pins s σ H E I hf st hg
  subst hP hw hK
  obtain⟨⟨old,he⟩,hit,hne⟩:=st
  obtain⟨xs,x,hq,hx⟩:=hg
  obtain⟨its,rv,p,hz⟩:=I.tuple hq
  obtain⟨u,hu,ru⟩:=rv.get hx
  have hel:e < s.heap.objs.size:=Heap.lt_size he
  have hil:it < s.heap.objs.size:=by obtain⟨_,q,_⟩:=hit; exact Heap.lt_size q
  refine Zin he hit (show s.heap.IsTuple a its.toArray from p) (x:=u) (by simpa using hu) hne fun h' ho hit' hT hsz hk=>?_
  refine⟨_,rfl,wpAny_letOwnedTupleGo_enum (s:={ s with heap:=h',toks:=s.toks + 1 }) ho fun h2 he2 sb=>?_⟩
  have hT2:h2.get? s.heap.objs.size=some { cls:=.type "tuple",data:=.seq #[.int i s.toks,u] }:=(sb.2 _ (Nat.ne_of_gt hel)).trans hT
  have new:ObjOk X.prog X.w (upd H s.heap.objs.size (.tup [.int (i:Nat),x])) h2 s.heap.objs.size (.tup [.int (i:Nat),x]) :=
   ⟨by show 2 ≤ YM; decide,[.int i s.toks,u],.cons ⟨_,rfl⟩ (.cons ru .nil),⟨_,hT2,rfl,_,rfl⟩⟩
  have I1:Inv X pins σ (upd H s.heap.objs.size (.tup [.int (i:Nat),x])) { s with heap:=h2,toks:=s.toks + 1 } :=
   I.turnedNew (ch:=[e,it]) (fun b ob hb q=>(sb.2 b (fun z=>hb (by simp[z]))).trans (hk b ob (fun z=>hb (by simp[z])) (fun z=>hb (by simp[z])) q)) hf (YQ _) new
  refine⟨.ref s.heap.objs.size,_,I1,rfl,⟨_,x,rfl,I.hok.fresh (YQ _),rfl,fun ys hy=>by rw[I.tuple_inj hy hq]; exact hx⟩,⟨⟨u,?_⟩,hit'.at fun o q=>(sb.2 it (Ne.symm hne)).trans q,hne⟩,fun b hb=>?_⟩
  ·rw[show((i + 1:Nat):Int)=(i:Int) + 1 by omega]; exact he2
  ·have hb':b < s.heap.objs.size:=by
    have z:b=e∨b=it:=by simpa using hb
    rcases z with rfl | rfl
    ·exact hel
    ·exact hil
   rw[upd_ne (YS hb')]
   exact(hf b hb).1
 done:=by
  intro X hP hw hK hc i pins s σ H E I hf st hg
  subst hP hw hK
  obtain⟨⟨old,he⟩,hit,hne⟩:=st
  obtain⟨xs,hq,hx⟩:=hg
  obtain⟨its,rv,p,hz⟩:=I.tuple hq
  obtain⟨f0,f1,f2,f3,f4,f5⟩:=hf it (by simp)
  have hl:=rv.length
  exact Zgp (I.ok.hd hc) he hit (show s.heap.IsTuple a its.toArray from p) (by simp; omega) fun h' eb=>⟨rfl,I.turned (t':=s.toks) (fun b o hb q=>eb b o hb q) f0 f1 f3 f4 f5⟩
 self:=fun A i s Q E st h=>let ⟨⟨_,he⟩,_⟩:=st; wpAny_pyIter_enum he h
def Zio(K:YC)(ta:TA):TI:=fun σ H R=>ta σ H fun vs H1=>∃ a,vs=[.ref a]∧((∃ xs,SqL K H1 a xs)∧R (Ite K a) H1∨(∃ xs,SqT K H1 a xs)∧R (ZqV K a) H1)
theorem ZhG{X:Cx}{e:Expr}{ta:TA}{p pos tpos:Pos}{elts:List Expr}{kk:Nat}(hg:Gl X "enumerate") (hm:X.mg "enumerate" = none) (ha:PA X [e] ta) (hs:starEach [e] X.env=[(false,eval e X.env)]:=by rfl) :
  PI X (.Tuple elts kk tpos) (.Call (.Name "enumerate" p) [e] [] pos) (Zio X.K ta):=by
 refine⟨fun pins s σ H R I h=>?_⟩
 refine Call_ (ld_blt I hg hm boot_enumerate (PyProof.Rows.callWith_type1 (thn (ha.run pos pins s σ H _ I h) fun us s1 ⟨vs,H1,I1,r1,q1⟩=>?_) hs rfl))
 obtain⟨a,ex,q1⟩:=q1
 subst ex
 cases r1 with
 | cons r rr =>
   cases rr
   cases r
   have fp:∀ b∈[s1.heap.objs.size + 1,s1.heap.objs.size],FpOk X pins H1 b:=fun b hb=>by
    have hle:s1.heap.objs.size ≤ b:=by
     have z:b=s1.heap.objs.size + 1∨b=s1.heap.objs.size:=by simpa using hb
     omega
    exact I1.fpOk hle (I1.hok.fresh hle)
   rcases q1 with⟨⟨xs,hq⟩,q⟩ | ⟨⟨xs,hq⟩,q⟩
   ·obtain⟨its,rv,p',hz⟩:=I1.list hq
    refine call_enumerate_list p'.isList fun h' he hit hsz hk=>wpAny_pyIter_enum he ?_
    exact⟨s1.heap.objs.size + 1,_,_,_,H1,rfl,I1.kept (t':=s1.toks) hk,turn_enum a (s1.heap.objs.size + 1) s1.heap.objs.size,⟨⟨.none,he⟩,hit,Nat.succ_ne_self _⟩,fp,q⟩
   ·obtain⟨its,rv,p',hz⟩:=I1.tuple hq
    refine Zkv (show s1.heap.IsTuple a its.toArray from p') fun h' he hit hsz hk=>wpAny_pyIter_enum he ?_
    exact⟨s1.heap.objs.size + 1,_,_,_,H1,rfl,I1.kept (t':=s1.toks) hk,Zkw a (s1.heap.objs.size + 1) s1.heap.objs.size,⟨⟨.none,he⟩,hit,Nat.succ_ne_self _⟩,fp,q⟩
section
variable {K:YC} {σ:L2.St} {H:Hp} {Q:VK} {D:Ends}
theorem Zpy{ta:TA}{R:It→Hp→Prop}:Zio K ta σ H R=ta σ H fun vs H1=>∃ a,vs=[.ref a]∧((∃ xs,SqL K H1 a xs)∧R (Ite K a) H1∨(∃ xs,SqT K H1 a xs)∧R (ZqV K a) H1):=rfl
theorem ZnP{r r':R2}{ta tb tc:TE}:tChain r r' ta tb tc σ H Q=ta σ H fun x H1=>tb σ H1 fun y H2=>r x y H2 fun z H3=>∃ k,z = .bl k∧(if k=true then tc σ H3 fun w' H4=>r' y w' H4 Q else Q (.bl false) H3):=rfl
theorem Zpz{te:TE}{R:It→Hp→Prop}:iStr te σ H R=te σ H fun v H1=>∃ x,v = .str x∧R (Its x) H1:=rfl
theorem ZpA{y:Str}{P:Str→Prop}:(∃ x,V.str y = .str x∧P x)=P y:=by
 apply propext; constructor
 ·rintro⟨j,e,h⟩; cases e; exact h
 ·exact fun h=>⟨y,rfl,h⟩
theorem ZrW{x y:V}{d e:PyData}(hx:Dp K H x d)(hy:Dp K H y e)(sd:SeqAt.shaped d=true)(se:SeqAt.shaped e=true)(q:Q (.bl (PyData.eqv d e)) H):ZbB K x y H Q:=.inr ⟨d,e,hx,hy,sd,se,q⟩
theorem ZpB{x y:V}{d e:PyData}(hx:Dp K H x d)(hy:Dp K H y e)(sd:SeqAt.shaped d=true)(se:SeqAt.shaped e=true)(q:Q (.bl (!PyData.eqv d e)) H):Zi8 K x y H Q:=.inr ⟨d,e,hx,hy,sd,se,q⟩
theorem ZpC{a:YF}{P:YF→Prop}:(∃ b,[V.ref a]=[.ref b]∧P b)=P a:=by
 apply propext; constructor
 ·rintro⟨j,e,h⟩; cases e; exact h
 ·exact fun h=>⟨a,rfl,h⟩
theorem loop_gen{J:It}{g:TG}{tb:TS}(n:Nat)(Pv:Nat→L2.St→Hp→Prop)(h0:Pv 0 σ H)(hstop:∀ σ H,Pv n σ H→J.stop n H)(hgo:∀ i σ H,i < n→Pv i σ H→J.go i H)
  (hs:∀ i σ H x H',i < n→Pv i σ H→J.yld i H x H'→g x σ H' fun σ2 H2=>tb { D with nx:=Pv (i + 1),ct:=Pv (i + 1),bk:=D.nx } σ2 H2) (hd:∀ σ H,Pv n σ H→D.nx σ H):Zje J g tb D σ H:=by
 refine⟨fun i m σ H=>m=n - i∧i ≤ n∧Pv i σ H,⟨n,by simp,YR _,h0⟩,?_⟩
 rintro i m σ H ⟨rfl,hi,p⟩
 by_cases hlt:i < n
 ·exact .inr ⟨hgo i σ H hlt p,Pv (i + 1),fun σ' H' p'=>⟨n - (i + 1),by omega,rfl,hlt,p'⟩,fun x H' y=>hs i σ H x H' hlt p y⟩
 ·have e:i=n:=by omega
  subst e
  exact .inl ⟨hstop σ H p,hd σ H p⟩
theorem Zk_{a:YF}{xs:List V}{g:TG}{tb:TS}(Pv:Nat→L2.St→Hp→Prop)(h0:Pv 0 σ H)(hl:∀ i σ H,i ≤ xs.length→Pv i σ H→SqT K H a xs)
  (hs:∀ i x T σ H H',xs[i]? = some x→Pv i σ H→Zb [] H H'→SqT K H' T [.int (i:Nat),x]→g (.ref T) σ H' fun σ2 H2=>tb { D with nx:=Pv (i + 1),ct:=Pv (i + 1),bk:=D.nx } σ2 H2) (hd:∀ σ H,Pv xs.length σ H→D.nx σ H):Zje (ZqV K a) g tb D σ H:=by
 refine loop_gen xs.length Pv h0 (fun σ H p=>⟨xs,hl _ σ H (YQ _) p,YQ _⟩) (fun i σ H hi p=>⟨xs,xs[i],hl i σ H (by omega) p,by simp[hi]⟩) ?_ hd
 rintro i σ H x H' hi p ⟨T,y,rfl,hT,rfl,hy⟩
 exact hs i y T σ H _ (hy xs (hl i σ H (by omega) p)) p (Zb.new hT) (SqT.of Y_)
theorem ZnQ{a:YF}{xs:List V}{g:TG}{tb:TS}(Pv:Nat→L2.St→Hp→Prop)(h0:Pv 0 σ H)(hl:∀ i σ H,i ≤ xs.length→Pv i σ H→SqL K H a xs)
  (hs:∀ i x T σ H H',xs[i]? = some x→Pv i σ H→Zb [] H H'→SqT K H' T [.int (i:Nat),x]→g (.ref T) σ H' fun σ2 H2=>tb { D with nx:=Pv (i + 1),ct:=Pv (i + 1),bk:=D.nx } σ2 H2) (hd:∀ σ H,Pv xs.length σ H→D.nx σ H):Zje (Ite K a) g tb D σ H:=by
 refine loop_gen xs.length Pv h0 (fun σ H p=>⟨xs,hl _ σ H (YQ _) p,YQ _⟩) (fun i σ H hi p=>⟨xs,xs[i],hl i σ H (by omega) p,by simp[hi]⟩) ?_ hd
 rintro i σ H x H' hi p ⟨T,y,rfl,hT,rfl,hy⟩
 exact hs i y T σ H _ (hy xs (hl i σ H (by omega) p)) p (Zb.new hT) (SqT.of Y_)
end
end M
namespace M
open PySem PySem.Spec PyProof.Rows L2
structure ZtI(K:YC)(w:YH)(d:YF)(kvs:List (Str×Str)):Prop where
 dict:∃ es n,KDict K w d es n
 has:∀ p∈kvs,∃ u,PySem.W.nsIn K d p.1=some (some u)∧RelV (.str p.2) u
 not:∀ x:Str,(∀ p∈kvs,p.1≠x)→PySem.W.nsIn K d x=some none
def Ztp(d:YF)(kvs:List (Str×Str)):R2:=fun x y H Q=>∃ z:Str,x = .str z∧y = .ref d∧Q (.bl (kvs.any fun p=>decide (p.1=z))) H
section
variable {X:Cx}
end
section
variable {K:YC} {σ:L2.St} {H:Hp} {Q:VK} {D:Ends}
theorem ZrX{d:YF}{kvs:List (Str×Str)}{z:Str}:Ztp d kvs (.str z) (.ref d) H Q=Q (.bl (kvs.any fun p=>decide (p.1=z))) H:=by
 apply propext; constructor
 ·rintro⟨z',e,_,h⟩; cases e; exact h
 ·exact fun h=>⟨z,rfl,rfl,h⟩
end
def ZsU(b:List Stm):Prop:=SeqAt.shaped (.tuple (blkD b))=true
theorem Zd2(d:PyData):SeqAt.shaped d=true↔d.canLay0=true∧d.depth ≤ 64:=by
 unfold SeqAt.shaped; simp
theorem Zjf(ds:List PyData):SeqAt.shaped (.tuple ds)=true↔(∀ d∈ds,d.canLay0=true∧d.depth ≤ 63):=by
 rw[Zd2]
 simp only[PyData.canLay0,PyData.depth]
 have h1:∀ l:List PyData,PyData.canLayAll0 l=true↔∀ d∈l,d.canLay0=true:=by
  intro l
  induction l with
  | nil=>simp[PyData.canLayAll0]
  | cons x r ih=>simp[PyData.canLayAll0,ih]
 have h2:∀ (l:List PyData) (n:Nat),PyData.depthAll l ≤ n↔∀ d∈l,d.depth ≤ n:=by
  intro l n
  induction l with
  | nil=>simp[PyData.depthAll]
  | cons x r ih =>
    simp only[PyData.depthAll,Yn,forall_eq_or_imp,← ih]
    omega
 rw[h1,show PyData.depthAll ds + 1 ≤ 64↔PyData.depthAll ds ≤ 63 by omega,h2]
 constructor
 ·exact fun h d m=>⟨h.1 d m,h.2 d m⟩
 ·exact fun h=>⟨fun d m=>(h d m).1,fun d m=>(h d m).2⟩
theorem ZsU.get{b:List Stm}(h:ZsU b){i:Nat}{s:Stm}(e:b[i]? = some s):SeqAt.shaped s.d=true:=by
 have m:s.d∈blkD b:=by rw[Z_]; exact Yv (Yj e)
 have h2:=(Zjf (blkD b)).mp h _ m
 exact(Zd2 _).mpr ⟨h2.1,by omega⟩
theorem Zfe(a:List Str)(x:Str):(a++[x]).map V.str=a.map V.str++[V.str x]:=by simp
end M
namespace PySem
namespace MXP
open PySem.W PyProof.Rows
section
variable {M:Model} {A:Around} {E:YI→YJ→Prop} {h:Heap} {g:Array GenState} {d:Drawn} {t:Nat} {os:OsState}
variable {nm q:Str} {C N:YF} {bs bm bmB:List YI} {hdct:Bool} {sn:List Str} {sub:List YI} {ab:Bool} {col:Option Bool} {dd:Option YF} {k0 k1 k2 k3 k5:Option YI} {B newId initId:String}
theorem Zip(F:ExcBaseFacts B newId initId bmB)(hT:∀ X:String,bm.contains (.type X)=bmB.contains (.type X)){rest:List YI}{kw:List (Str×YI)}{Q:Unit→YJ→Prop}
  (hC:h.get? C=some (excClassObj nm q C N bs bm hdct sn sub ab col dd k0 k1 k2 k3 k5 newId)) (hq:Q () ⟨h,g,d,t,os⟩):wpAny M A (checkBuiltinCall newId ⟨.ref C :: rest,kw⟩) Q E ⟨h,g,d,t,os⟩:=by
 have hcont:(Value.ref C :: bm).contains (.type B)=true:=by rw[List.contains_cons,hT,F.hasB,Bool.or_true]
 have hstar:=F.noStar
 simp only[checkBuiltinCall,F.newKind,F.newSplit,F.newRow]
 repeat (first | refine wpAny_loadPart_at hC ?_ | (refine wpAny_isSubtype_exc hC ?_; rw[hcont]) | refine wpAny_staticBase_exc hC ?_ | refine wpAny_madeBy_exc hC ?_ | simp only[bne_self_eq_false,Bool.false_eq_true,if_false] | wp_step)
 exact hq
end
section
variable {prog:YG} {w:YH} {A:Around} {E:YI→YJ→Prop} {R:Result→YJ→Prop} {h:Heap} {g:Array GenState} {d:Drawn} {t:Nat} {os:OsState}
variable {nm q:Str} {C N:YF} {bs bm bmB:List YI} {hdct:Bool} {sn:List Str} {sub:List YI} {ab:Bool} {col:Option Bool} {dd:Option YF} {k0 k1 k2 k3 k5:Option YI} {B newId initId:String}
theorem ZpD(F:ExcBaseFacts B newId initId bmB)(hT:∀ X:String,bm.contains (.type X)=bmB.contains (.type X)){rest:List YI}{kw:List (Str×YI)}
  (hC:h.get? C=some (excClassObj nm q C N bs bm hdct sn sub ab col dd k0 k1 k2 k3 k5 newId))
  (hq:R (.ok (.ret (.ref (h.objs.size + 1)))) ⟨(h.push { cls:=.type "tuple",data:=.seq rest.toArray }).push
   { cls:=.ref C,data:=.fields #[.ref h.objs.size,.none,.none,.none,.bool false,.none] },g,d,t,os⟩) (hrest:rest.length ≤ YM) :
  codeAny (model prog w) A (.builtin newId ⟨.ref C :: rest,kw⟩) R ⟨h,g,d,t,os⟩:=by
 have hends:=F.ends
 have hcB:(Value.ref C :: bm).contains (.type B)=true:=by rw[List.contains_cons,hT,F.hasB,Bool.or_true]
 have hcA:(Value.ref C :: bm).contains (.type "AttributeError")=false:=by rw[List.contains_cons,hT,F.noAttr]; rfl
 have hcN:(Value.ref C :: bm).contains (.type "NameError")=false:=by rw[List.contains_cons,hT,F.noName]; rfl
 refine codeAny_builtinAt F.entry ?_
 unfold Builtin.«BaseException.__new__»
 refine wpAt_bind ?_
 show wpAt _ _ _ (stack >>= _) _ _ _
 refine wpAt_bind (wpAt_stack fun p below=>wpAt_of_wpAny ?_)
 wp_walk
 refine wpAt_of_wpAny ?_
 rw[F.owner]
 repeat (first | with_reducible refine wpAny_madeHere_exc F.canon hC ?_ | with_reducible refine wpAny_loadPart_at hC ?_ | (with_reducible refine wpAny_isSubtype_exc hC ?_; first | rw[hcB] | rw[hcA] | rw[hcN]) | wp_step)
 show R _ _
 rw[Heap.size_push]
 exact hq
theorem Ziq(F:ExcBaseFacts B newId initId bmB)(hT:∀ X:String,bm.contains (.type X)=bmB.contains (.type X)){rest:List YI}{kw:List (Str×YI)}{fI:YF}{Q:Fin→YJ→Prop}
  (hC:h.get? C=some (excClassObj nm q C N bs bm hdct sn sub ab col dd k0 k1 k2 k3 k5 newId))
  (hi:W.Looks (model prog w) h (typeLookup (.ref C) "__init__") (some (.ref fI))) (hb:∀ self,W.Looks (model prog w) h (bindSpecial (.ref fI) self) (.ref fI,[self])) (hrest:rest.length ≤ YM)
  (hq:codeAny (model prog w) A (.call (.ref fI) ⟨.ref (h.objs.size + 1) :: rest,kw⟩)
   (fun r s'=>match r with | .ok (.ret v)=>v = .none∧Q (.done (.ret (.ref (h.objs.size + 1)))) s' | .ok _=>False | .error e=>E e s')
   ⟨(h.push (W.kdv_tup rest)).push (PySem.HandSPX.excO C h.objs.size),g,d,t,os⟩) :
  wpAny (model prog w) A (Builtin.«type.__call__» ⟨.ref C :: rest,kw⟩) Q E ⟨h,g,d,t,os⟩:=by
 repeat (first | with_reducible refine wpAny_loadPart_at hC ?_ | with_reducible refine wpAny_madeBy_exc hC ?_ | wp_step)
 refine codeAny_call_builtin_code (Code.quiet_builtin _ F.quiet) (Zip F hT hC ?_)
 refine ZpD F hT hC ?_ hrest
 show wpAny _ _ _ _ _ _
 have k:∀ b o,h.get? b=some o→((h.push (W.kdv_tup rest)).push (PySem.HandSPX.excO C h.objs.size)).get? b=some o:=fun b o e=>YN _ (YN _ e)
 have hC₁:=k _ _ hC
 have hget:((h.push (W.kdv_tup rest)).push (PySem.HandSPX.excO C h.objs.size)).get? (h.objs.size + 1)=some (PySem.HandSPX.excO C h.objs.size):=by heap_get
 have hcC:(Value.ref C :: bm).contains (.ref C)=true:=by simp
 have i1:=hi.keeps k
 have b1:=(hb (.ref (h.objs.size + 1))).keeps k
 unfold isInstance
 repeat (first | with_reducible refine wpAny_loadPart_at hget ?_ | (with_reducible refine wpAny_isSubtype_exc hC₁ ?_; rw[hcC]) | wp_step)
 show wpAny _ _ (typeLookup (.ref C) _) _ _ _
 refine i1.at ?_
 refine wpAny_holding (YD (b1.at ?_))
 refine YD (wpAny_call (codeAny_mono hq fun r s' z=>?_))
 rcases r with e | (v | _ | _ | _) <;> first | exact z | exact z.elim | skip
 obtain⟨rfl,z⟩:=z
 first
  | exact YL (YL z)
  | (wp_walk; exact z)
theorem call_kw(F:ExcBaseFacts B newId initId bmB)(hT:∀ X:String,bm.contains (.type X)=bmB.contains (.type X)){rest:List YI}{kw:List (Str×YI)}{fI:YF}
  (hC:h.get? C=some (excClassObj nm q C N bs bm hdct sn sub ab col dd k0 k1 k2 k3 k5 newId))
  (hi:W.Looks (model prog w) h (typeLookup (.ref C) "__init__") (some (.ref fI))) (hb:∀ self,W.Looks (model prog w) h (bindSpecial (.ref fI) self) (.ref fI,[self])) (hrest:rest.length ≤ YM)
  (hq:codeAny (model prog w) (A.under (.builtin "type.__call__" ⟨.ref C :: rest,kw⟩)) (.call (.ref fI) ⟨.ref (h.objs.size + 1) :: rest,kw⟩) (W.InitBack (h.objs.size + 1) R)
   ⟨(h.push (W.kdv_tup rest)).push (PySem.HandSPX.excO C h.objs.size),g,d,t,os⟩) :
  codeAny (model prog w) A (.call (.ref C) ⟨rest,kw⟩) R ⟨h,g,d,t,os⟩:=by
 have f1:=tc_lookup
 have f2:=tc_bind (.ref C)
 have hTy:(⟨h,g,d,t,os⟩:YJ).TypeIs (.ref C) "type" := ⟨_,hC,rfl⟩
 refine codeAny_of_tree ?_
 show wpAny _ _ (callAny (.ref C) _) _ _ _
 repeat (any_goals (first | assumption | with_reducible refine wpAny_loadPart_at hC ?_ | wp_step))
 refine⟨rfl,?_⟩
 refine codeAny_call_builtin_at (Code.quiet_builtin _ (by decide +kernel)) entry_typeCall (wpAny_check_type_call_sub hC (Ziq F hT hC hi hb hrest ?_))
 refine codeAny_mono hq fun r s' z=>?_
 rcases r with e | (v | _ | _ | _) <;> exact z
end
end MXP
end PySem
namespace M
open PySem PySem.Spec PyProof.Rows L2
structure Zjg(N P:List Str)(sc:Scope):Prop where
 kind:sc.kind = .function
 co:sc.isCoroutine=false
 gen:sc.isGenerator=false
 nd:N.Nodup
 pre:N.take P.length=P
 par:∀ x∈P,sc.names.lookup x=some .local
 nocell:∀ y∈sc.names,y.2≠.cell
 free:∀ y∈sc.names,y.2 = .free→y.1 = "__class__"
abbrev Znk(qual:Str)(scope:Scope)(L f:YF)(cd:YI)(cc:YF):Env:=PySem.W.envX qual scope L f cd [("__class__",cc)]
def cxS(CX:CXT)(P:YG)(w:YH)(K:YC)(mg:Str→Option YI)(base:Heap)(N:List Str)(qual:Str)(scope:Scope)(f:YF)(cd:YI)(cc:YF)(A:Around)(outer:List Env)(s:YJ)(H:Hp)(E:XK):Cx where
 prog:=P
 w:=w
 K:=K
 mg:=mg
 base:=base
 A:=A.deeper (Znk qual scope s.heap.objs.size f cd cc)
 N:=N
 s_0:=s
 H_0:=H
 env:=Znk qual scope s.heap.objs.size f cd cc
 outer:=outer
 stack:=Znk qual scope s.heap.objs.size f cd cc :: outer
 ex:=[]
 calm:=true
 fn:=fun x=>!(x == ("__class__" : Str))
 pn:=[]
 xe:=fun e s'=>wpAny (model P w) (A.deeper (Znk qual scope s.heap.objs.size f cd cc)) (leaving (Znk qual scope s.heap.objs.size f cd cc) e) (fun _ s''=>CX outer H s E e s'') (fun e' s''=>CX outer H s E e' s'') s'
theorem ZcI{cc c:YF}{y:Str}(h:([("__class__",cc)]:List (Str×YF)).lookup y=some c):y = "__class__" ∧ c=cc:=by
 simp only[List.lookup_cons,List.lookup_nil]at h
 split at h
 ·rename_i e
  cases h
  exact⟨eq_of_beq e,rfl⟩
 ·cases h
theorem ZnR{ps:List Str}{us:List YI}{i:Nat}{y:Str}{u:YI}(nd:ps.Nodup)(hp:ps[i]? = some y)(hu:us[i]? = some u):(ps.zip us).reverse.lookup y=some u:=by
 induction ps generalizing us i with
 | nil=>simp at hp
 | cons p r ih =>
   cases us with
   | nil=>simp at hu
   | cons v vs =>
     obtain⟨n1,n2⟩:=List.nodup_cons.mp nd
     simp only[List.zip_cons_cons,List.reverse_cons]
     rw[List.lookup_append]
     cases i with
     | zero =>
       simp at hp hu
       subst hp hu
       have e:(r.zip vs).reverse.lookup p=none:=by
        rw[List.lookup_eq_none_iff]
        intro q hq
        have m:q.1∈r:=(List.of_mem_zip (List.mem_reverse.mp hq:(q.1,q.2)∈r.zip vs)).1
        simp only[bne_iff_ne,ne_eq]
        rintro rfl
        exact n1 m
       rw[e]
       simp
     | succ i =>
       rw[ih n2 (by simpa using hp) (by simpa using hu)]
       simp
theorem Zkx{CX:CXT}{P:YG}{w:YH}{K:YC}{mg:Str→Option YI}{base:Heap}{N ps:List Str}{qual:Str}{scope:Scope}{f cc:YF}{cd:YI}{A:Around}{outer:List Env}{s:YJ}{H:Hp}{E:XK}{us:List YI}{vs:List V}{h1:Heap}{tk:Nat}{ocl:Obj}{vc:Option YI}
  (S:Zjg N ps scope) (hd:A.handled=none) (e0:Env0 P w K mg base A outer s H) (hl:vs.length=ps.length) (r:Vals vs us) (hcc:K.lookup cc=some ocl) (hcv:ocl.data = .cell vc)
  (hns:h1.Ns s.heap.objs.size (fun x=>(ps.zip us).reverse.lookup x)) (hk:∀ b o,s.heap.get? b=some o→h1.get? b=some o) :
  Inv (cxS CX P w K mg base N qual scope f cd cc A outer s H E) [] (start N vs) H { s with heap:=h1,toks:=tk }:=by
 have hpl:ps.length ≤ N.length:=by have:=congrArg List.length S.pre; rw[Yu]at this; omega
 have noA:∀ b:YF,b∉(cxS CX P w K mg base N qual scope f cd cc A outer s H E).ex:=fun b z=>absurd (show b∈([]:List YF)from z) (by simp)
 have bcc:base.get? cc=some ocl:=e0.mod.kin _ _ hcc
 refine⟨⟨e0.mod,S.kind,rfl,rfl,YQ _,fun y z c h1 h2=>?_,fun y hy=>?_,fun y c hf h=>?_,fun _=>hd,Around.frames_deeper e0.frames,.inr ⟨rfl,rfl⟩,fun b z=>absurd z (noA b),e0.bs,e0.bsz,fun b _ _=>noA b,fun b z=>absurd z (noA b),e0.funs,e0.frf⟩,
  rfl,e0.bare,Un.kept hk,⟨_,hns,fun i y v h1 h2 h3=>?_⟩,fun y c h=>?_,e0.hok.fresh (YQ _),fun y c h=>?_,fun p hp=>absurd (show p∈([]:List (YF×Obj))from hp) (by simp),e0.hok.kept hk,?_⟩
 ·exact(ZcI h1).1.trans (ZcI h2).1.symm
 ·have hy:scope.names.lookup y=some .cell∨scope.names.lookup y=some .free:=hy
  rcases hy with hy | hy
  ·exact absurd rfl (S.nocell _ (PySem.mem_of_lookup hy))
  ·have e:=S.free _ (PySem.mem_of_lookup hy) rfl
   exact⟨cc,by show([("__class__",cc)]:List (Str×YF)).lookup y=_; rw[show y = "__class__" from e]; simp⟩
 ·have e:=(ZcI h).1
  subst e
  have hf2:(!(("__class__" : Str) == ("__class__" : Str)))=true:=hf
  simp at hf2
 ·have hi:i < vs.length:=by
   unfold L2.start at h2
   by_cases hi:i < vs.length
   ·exact hi
   ·rw[List.getElem?_append_right (by simpa using hi)]at h2
    rw[List.getElem?_replicate]at h2
    split at h2 <;> cases h2
  have ha:vs[i]? = some v:=by
   unfold L2.start at h2
   rw[List.getElem?_append_left (by simpa using hi),Ym]at h2
   cases e:vs[i]? with
   | none=>rw[e]at h2; cases h2
   | some a=>rw[e]at h2; cases h2; rfl
  obtain⟨u,hu,rv⟩:=r.get ha
  have hp:ps[i]? = some y:=by
   rw[← S.pre,List.getElem?_take_of_lt (by omega)]; exact h1
  have ndP:ps.Nodup:=by rw[← S.pre]; exact S.nd.sublist (List.take_sublist _ _)
  exact⟨u,rv,.inl ⟨S.par y (Yj hp),ZnR ndP hp hu⟩⟩
 ·obtain⟨_,rfl⟩:=ZcI h
  exact⟨vc,ocl,hk _ _ (e0.bs _ _ bcc).1,hcv⟩
 ·obtain⟨_,rfl⟩:=ZcI h
  exact(e0.bs _ _ bcc).2
 ·unfold L2.start
  show _=N.length
  rw[Yc,Yb,List.length_replicate]
  omega
abbrev fnS(name qual:Str)(params:Arguments)(body:List YK)(scope:Scope)(dV kV doc pm:YI)(an:Option YF)(cdv ct:YI)(cc:YF):YE:=PySem.W.fnX name qual params body scope [("__class__",cc)] dV kV doc pm an cdv ct
theorem ZpE{CX:CXT}{P:YG}{w:YH}{K:YC}{mg:Str→Option YI}{base:Heap}{k:Nat}{f cc:YF}{name qual:Str}{params:Arguments}{body:List YK}{scope:Scope}{dV kV doc pm cdv ct oc:YI}{an od:Option YF}
  {osl:Array (Option YI)} {N ps:List Str} {sp:Sp} {ocl:Obj} {vc:Option YI} (lk:K.lookup f=some ⟨oc,od,.func (fnS name qual params body scope dV kV doc pm an cdv ct cc),osl⟩) (hcd:PySem.W.codeIn K cdv qual=true) (S:Zjg N ps scope)
  (hcc:K.lookup cc=some ocl) (hcv:ocl.data = .cell vc)
  (len:∀ vs H Q E,sp vs H Q E→vs.length=ps.length)
  (hbody:∀ (A:Around) (outer:List Env) (s:YJ) (H:Hp) (vs:List V) (Q:VK) (E:XK) (s1:YJ),Room k (A.deeper (Znk qual scope s.heap.objs.size f cdv cc))→sp vs H Q E →
   Inv (cxS CX P w K mg base N qual scope f cdv cc A outer s H E) [] (L2.start N vs) H s1 →
   PySem.wpAt (model P w) (cxS CX P w K mg base N qual scope f cdv cc A outer s H E).A (.func body (Znk qual scope s.heap.objs.size f cdv cc)) (execs body (Znk qual scope s.heap.objs.size f cdv cc))
    (SP (cxS CX P w K mg base N qual scope f cdv cc A outer s H E) [] { nx:=fun _ H'=>Q .non H',rt:=Q }) (cxS CX P w K mg base N qual scope f cdv cc A outer s H E).xe s1) :
  Xn P w K mg base CX (k + 1) f (fnS name qual params body scope dV kV doc pm an cdv ct cc) ps sp:=by
 refine⟨len,fun A outer s H args us vs Q E hr e0 hb r hsp=>?_⟩
 have hl:=len _ _ _ _ hsp
 have KX:K.In s.heap:=e0.mod.kin.keeps fun b o e=>(e0.bs b o e).1
 have lim:s.heap.NoLimit:=e0.mod.nolimit.keeps fun b o e=>(e0.bs b o e).1
 refine PySem.ks_codeAny_call_defAt hr.depth (KX _ _ lk) rfl lim (PySem.W.codeRec_of KX hcd) rfl hb S.nocell (fun y hy=>S.par y.1 (List.of_mem_zip (show(y.1,y.2)∈ps.zip us from hy)).1) (fun h1 hns hk=>?_) S.co S.gen S.kind
 have I:=Zkx (CX:=CX) (qual:=qual) (f:=f) (cd:=cdv) (E:=E) (tk:=s.toks + (ps.zip us).length) S hr.hd e0 hl r hcc hcv hns hk
 refine PySem.ks_wpAt_mono (hbody A outer s H vs Q E _ (hr.deeper _) hsp I) (fun fl s' hs=>?_) fun e s' hs=>hs
 have fin:∀ {σ':L2.St} {H':Hp} {v:V} {u:YI},Inv (cxS CX P w K mg base N qual scope f cdv cc A outer s H E) [] σ' H' s'→RelV v u→Q v H'→CE outer P w H s Q u s' :=
  fun {σ' H' v u} J rv q=>⟨v,H',J.os,J.bare,J.base,J.hok,rv,q⟩
 cases fl with
 | ret u =>
   obtain⟨v,σ',H',J,rv,q⟩:=hs
   exact fin J rv q
 | next =>
   obtain⟨σ',H',J,q⟩:=hs
   exact fin (v:=V.non) (u:=Value.none) J rfl q
 | brk =>
   obtain⟨_,_,_,q⟩:=hs
   exact False.elim q
 | cont =>
   obtain⟨_,_,_,q⟩:=hs
   exact False.elim q
section
open PySem.W
variable {prog:YG} {w:YH} {A:Around} {E:YI→YJ→Prop} {h:Heap} {g:Array GenState} {d:Drawn} {t:Nat} {os:OsState} {K:Frag} {C:YF} {B newId i:String} {bmB:List YI}
theorem ZnS{u e t0:YF}{rest:List YI}{Q:YI→YJ→Prop}(FB:ExcBaseFacts B newId i bmB)(X:K.In h)(q:excInitIn K C bmB newId=true)(he:h.get? e=some (excObj C t0 none .none))(hu:h.get? u=some (kxs_mw i e))(hz:rest.length ≤ YM)
  (hq:∀ h' t1,(∀ b o,b≠e→h.get? b=some o→h'.get? b=some o)→h'.get? e=some (excObj C t1 none .none)→Q .none ⟨h',g,d,t,os⟩) :
  wpAny (model prog w) A (call (.ref u) rest) Q E ⟨h,g,d,t,os⟩:=by
 obtain⟨nm,N',qn,bs,bm,hdct,sn,sub,ab,col,dd,k0,k1,k2,k3,k5,hC,hT⟩:=excInit_of X q
 refine wpAny_call (codeAny_of_tree ?_)
 show wpAny _ A.in1 (callAny (.ref u) ⟨rest,[]⟩) _ _ _
 simp only[callAny]
 refine YD (wpAny_load hu ?_)
 simp only[kxs_mw,show(Value.type "method-wrapper" == Value.type "method" || Value.type "method-wrapper" == Value.type "builtin_function_or_method" || Value.type "method-wrapper" == Value.type "method-wrapper")=true by decide,if_true]
 refine KFB.if_so (by decide) ?_
 refine YD (check_bound_init FB.toExcCallFacts hC he rfl ?_)
 refine YD (YL (YL ?_))
 refine⟨plainId_quiet FB.init.plain _,codeAny_builtin FB.initEntry ?_⟩
 exact exc_init_tree (cls:=.ref C) (t0:=t0) (dv:=none) (c2:=.none) (c3:=.none) (b4:=.bool false) he hz fun h' k e' _=>hq h' _ k e'
end
structure SuC(K:YC)(C D:YF)(B newId i:String)(bmB:List YI):Prop where
 fb:ExcBaseFacts B newId i bmB
 kx:PySem.W.KxsFacts B i
 cls:PySem.W.excInitIn K C bmB newId=true
 sub:PySem.W.mroIn K C (.ref D)=some true
 sup:PySem.W.ks_superIn K C D "__init__" = some (some (.builtin i))
 isB:PySem.W.subIn K (.ref C) (.type B)=some true
 no:PySem.W.nsIn K PySem.cStatics "thirdparty.any" = some none
structure SuF(X:Cx)(me:Str)(D:YF):Prop where
 ks:X.env.kindOf "super" = some .globalImplicit
 kc:X.env.kindOf "__class__" = some .free
 loc:X.env.kindOf me=some .local
 N0:X.N[0]? = some me
 mg:X.mg "super" = none
 top:(X.prog.main.scope.names.lookup ("super" : Str)).isSome=false
 fn:∃ (f:YF) (oc:YI) (od:Option YF) (fd:YE) (osl:Array (Option YI)) (ar:Arg),X.env.func=some f∧X.K.lookup f=some ⟨oc,od,.func fd,osl⟩∧(fd.params.posonlyargs++fd.params.args).head? = some ar∧ar.arg=me
 code:∃ (cda:YF) (ccl:YI) (cdd:Option YF) (vs:Array YI) (ccs:Array (Option YI)) (file:Str) (tf:Tok),X.env.code = .ref cda∧X.K.lookup cda=some ⟨ccl,cdd,.fields vs,ccs⟩∧vs[2]? = some (.str file tf)∧((X.prog.main.file:Str) == file)=true
 cell:∃ (cc:YF) (cl:YI) (cld:Option YF) (csl:Array (Option YI)),X.env.cells.lookup ("__class__" : Str)=some cc∧X.K.lookup cc=some ⟨cl,cld,.cell (some (.ref D)),csl⟩
 clsD:∃ cdD,PySem.W.clsIn X.K D=some cdD
theorem Zla{X:Cx}{pins:List (YF×Obj)}{σ:L2.St}{H:Hp}{s:YJ}{a C D:YF}{B newId i:String}{bmB:List YI}{body:List YK}{me txt:Str}{j:Nat}{p0 p1 apos cp pos epos:Pos}{pl:Sem Bool}{Q:Flow→YJ→Prop}
  (T:SuC X.K C D B newId i bmB) (G:SuF X me D) (I:Inv X pins σ H s) (e:H a=some (exo a C none)) (hv : σ[0]? = some (some (.ref a))) (h:∀ s',Inv X pins σ H s'→Q .next s')
  (hsw:swapsWith (.Call (.Attribute (.Call (.Name "super" p0) [] [] p1) "__init__" apos) [.Constant (.str txt) j cp] [] pos) none epos.line X.env=pure false)
  (he:eval (.Call (.Attribute (.Call (.Name "super" p0) [] [] p1) "__init__" apos) [.Constant (.str txt) j cp] [] pos) X.env=(do
   let ov ← attributeBase (.Call (.Name "super" p0) [] [] p1) "__init__" X.env (eval (.Call (.Name "super" p0) [] [] p1) X.env)
   standAt apos.atName
   let (f,first) ← holding [ov] (getMethod ov "__init__" pl)
   callWith pos f first (backTo pos (starEach [.Constant (.str txt) j cp] X.env)) []):=by rfl) :
  PySem.wpAt (model X.prog X.w) X.A (.func body X.env) (exec (.Expr (.Call (.Attribute (.Call (.Name "super" p0) [] [] p1) "__init__" apos) [.Constant (.str txt) j cp] [] pos) epos) X.env) Q X.xe s:=by
 obtain⟨f,oc,od,fd,osl,ar,hfu,lk,hp,har⟩:=G.fn
 obtain⟨cda,ccl,cdd,vs,ccs,file,tf,hco,hcode,hvs,hfile⟩:=G.code
 obtain⟨cc,cl,cld,csl,hcell,hcc⟩:=G.cell
 obtain⟨cdD,hD⟩:=G.clsD
 have KX:=I.kIn
 obtain⟨oD,hD1,hD2⟩:∃ oD,s.heap.get? D=some oD∧oD.data = .cls cdD:=by
  unfold PySem.W.clsIn at hD
  split at hD
  ·rename_i c d cd' sl ho
   cases hD
   exact⟨_,KX _ _ ho,rfl⟩
  ·cases hD
 obtain⟨mL,hnL,hL⟩:=I.loc
 obtain⟨us,rus,lus⟩:=hL 0 me _ G.N0 hv (.inl G.loc)
 obtain rfl:us=Value.ref a:=rus
 have hml:mL me=some (.ref a):=by
  rcases lus with⟨_,q⟩ | ⟨q,_⟩
  ·exact q
  ·rw[G.loc]at q; rcases q with q | q <;> cases q
 obtain⟨t1,ho⟩:=exo_at I.hok e
 obtain⟨mb,b1,b2⟩:=I.mod.blt
 refine PySem.ks_wpAt_Expr_any (hi:=I.quiet) (hs:=hsw) (PySem.ks_wpAt_MethodCall (PySem.ks_wpAt_super_base G.ks G.kc (by decide) hfu (KX _ _ lk) rfl hp hco (KX _ _ hcode) rfl hvs hfile G.top ?_) he)
 refine PySem.W.ks_loadName_global I.ok.kind G.ks (Calls.loadGlobal_builtin (by rw[I.ok.glob]; exact I.mod.glob.keeps I.bk) G.mg (by rw[I.ok.blt]; exact b1.keeps I.bk) ((b2 "super" (by decide)).trans (show bootBuiltins "super" = some (.type "super")by decide +kernel)) ⟨rfl,?_⟩)
 refine wpAny_loadName_free I.ok.kind G.kc hcell ⟨_,KX _ _ hcc,rfl⟩ ?_
 rw[har]
 refine wpAny_loadName_local I.ok.kind G.loc hnL hml ?_
 refine PySem.ks_wpAny_isType_cls hD1 hD2 ⟨rfl,?_⟩
 obtain⟨hh,g,d,t,os⟩:=s
 refine PySem.ks_wpAny_call_super hD1 hD2 ho rfl (fun c z=>by cases z) (PySem.W.looks_mroIn KX T.sub) (fun h1 e1 kk1=>?_)
 have I1:Inv X pins σ H ⟨h1,g,d,t,os⟩:=I.kept (t':=t) kk1
 have hsup:=T.sup
 unfold PySem.W.ks_superIn at hsup
 cases hc:PySem.W.clsIn X.K C with
 | none=>rw[hc]at hsup; cases hsup
 | some cd =>
   rw[hc,Option.bind_some]at hsup
   have IA:PySem.W.InstAt h1 a { cls:=.ref C,dict:=none,data:=.fields #[.ref t1,.none,.none,.none,.bool false,.none] } C none:=⟨kk1 _ _ ho,rfl,rfl,trivial⟩
   have KX1:=I1.kIn
   refine PySem.W.kxs_getMethod T.kx e1 (PySem.W.looks_opaque KX1 T.no) (l₀:=cd.mro) ?_ rfl KX1 hsup (IA.type.andThen (PySem.W.looks_subIn KX1 T.isB)) (PySem.W.ks_ne KX1 IA hc) (by decide) ?_
   ·exact fun A Q E s k q=>YD ((PySem.W.looks_clsIn KX1 hc) A _ E s k (YL q))
   ·have kk2:∀ b o,h1.get? b=some o→(h1.push (PySem.W.kxs_mw i a)).get? b=some o:=fun b o z=>YN _ z
    have hu:(h1.push (PySem.W.kxs_mw i a)).get? h1.objs.size=some (PySem.W.kxs_mw i a):=Heap.get?_push_at rfl rfl
    have I2:Inv X pins σ H ⟨h1.push (PySem.W.kxs_mw i a),g,d,t + 2,os⟩:=I1.kept (t':=t + 2) kk2
    refine PySem.W.kxs_callWith (i:=i) (x:=a) rfl (PySem.Calls.evalArgs_plain (Calls.spliced_cons (Calls.Constant_str (k:=j) (pos:=cp) (Calls.spliced_nil ⟨hu,?_⟩))))
    refine ZnS T.fb I2.kIn T.cls (kk2 _ _ (kk1 _ _ ho)) hu (by show 1 ≤ YM; decide) fun h3 t3 k3 e3=>?_
    have J:=I2.write (t':=t + 2) (x:=a) (e:=a) (o:=exo a C none) (by rw[e]; exact True.intro) (.inl rfl) k3 ⟨_,e3⟩ (exo_ok e3)
    have eu:upd H a (exo a C none)=H:=by
     funext b
     by_cases hb:b=a
     ·rw[hb,Y_,e]
     ·rw[upd_ne hb]
    rw[eu]at J
    exact h _ J
end M
namespace M
open PySem PySem.Spec PyProof.Rows L2
structure Zky(K:YC)(C:YF):Prop where
 sa:PySem.W.findIn K (.ref C) "__setattr__" = some (some (.builtin "object.__setattr__"))
 new:∀ {prog:YG} {w:YH} {A:Around} {R:Result→YJ→Prop} {hp:Heap} {g:Array GenState} {d:Drawn} {t:Nat} {os:OsState} {name:Str} {tk:Tok} {v:YI} {x:YF} {fv:Array YI},
  K.In hp→hp.get? x=some { cls:=.ref C,data:=.fields fv }→PySem.W.findIn K (.ref C) name=some none →
  (∀ h' tk' dx,(∀ b o,b≠x→hp.get? b=some o→h'.get? b=some o)→hp.objs.size ≤ dx→dx≠x→h'.get? x=some { cls:=.ref C,dict:=some dx,data:=.fields fv } →
   h'.Ns1 dx (fun y=>if y=name then some v else none)→R (.ok (.ret .none)) ⟨h',g,d,tk',os⟩) →
  codeAny (model prog w) A (.call (.builtin "object.__setattr__") ⟨[.ref x,.str name tk,v],[]⟩) R ⟨hp,g,d,t,os⟩
 old:∀ {prog:YG} {w:YH} {A:Around} {R:Result→YJ→Prop} {hp:Heap} {g:Array GenState} {d:Drawn} {t:Nat} {os:OsState} {name:Str} {tk:Tok} {v:YI} {x dx:YF} {fv:Array YI} {m0:Str→Option YI} {nl:List Str},
  K.In hp→hp.get? x=some { cls:=.ref C,dict:=some dx,data:=.fields fv }→hp.Ns1 dx m0→Within m0 nl→nl.length ≤ 1000→PySem.W.findIn K (.ref C) name=some none →
  (∀ h' tk',(∀ b o,b≠dx→hp.get? b=some o→h'.get? b=some o)→h'.Ns1 dx (fun y=>if y=name then some v else m0 y)→R (.ok (.ret .none)) ⟨h',g,d,tk',os⟩) →
  codeAny (model prog w) A (.call (.builtin "object.__setattr__") ⟨[.ref x,.str name tk,v],[]⟩) R ⟨hp,g,d,t,os⟩
theorem Zky.ve{K:YC}{C:YF}(T:OexC K C):Zky K C:=by
 obtain⟨nm,q,N,bs,bm,sn,sub,ab,col,dd,k0,k1,k2,k3,k5,hC,hbm⟩:=T.cls
 have hcl:PySem.W.clsIn K C=some { name:=nm,bases:=bs,mro:=.ref C :: bm,ns:=N,qualname:=q,hasDict:=true,slotNames:=sn,subclasses:=sub,abstract:=ab,collection:=col,hasDel:=false }:=by unfold PySem.W.clsIn; rw[hC] <;> rfl
 have hm:PySem.HandSPX.refsVE (.ref C :: bm)=true:=hbm
 exact⟨T.sa,fun X hx ha hq=>PySem.HandSPX.exc_osa X hx hcl hm rfl ha hq,fun X hx hn hw hz ha hq=>PySem.OEX.osa_old X hx hn hw hz hcl hm rfl ha hq⟩
theorem Zky.ex{K:YC}{C:YF}{cd:ClassData}(sa:PySem.W.findIn K (.ref C) "__setattr__" = some (some (.builtin "object.__setattr__"))) (hcl:PySem.W.clsIn K C=some cd) (hm:cd.mro = .ref C :: PySem.ESX.exTail) (hh:cd.hasDict=true):Zky K C :=
 ⟨sa,fun X hx ha hq=>PySem.ESX.osa_new X hx hcl hm hh ha hq,fun X hx hn hw hz ha hq=>PySem.ESX.osa_old X hx hn hw hz hcl hm hh ha hq⟩
section
variable {X:Cx} {pins:List (YF×Obj)} {σ:L2.St} {H:Hp} {s:YJ} {a C dx:YF} {f:Str} {y:V} {u:YI} {fs:List (Str×V)} {Q:Unit→YJ→Prop} {E:YI→YJ→Prop} {A:Around}
theorem Zmd(T:Zky X.K C)(I:Inv X pins σ H s)(e:H a=some (exo a C none))(hno:PySem.W.findIn X.K (.ref C) f=some none)(ry:RelV y u)
  (h:∀ dx s',H dx=none→dx≠a→Inv X pins σ (upd (upd H dx (exd dx [(f,y)])) a (exo a C (some dx))) s'→Q () s'):wpAny (model X.prog X.w) A (setAttr (.ref a) f u) Q E s:=by
 obtain⟨t1,ho⟩:=exo_at I.hok e
 obtain⟨hp,g,d,t,os⟩:=s
 refine PySem.W.set_plain I.kIn (ox:={ cls:=.ref C,dict:=none,data:=.fields #[.ref t1,.none,.none,.none,.bool false,.none] }) (od:=none) ⟨ho,rfl,rfl,trivial⟩ T.sa ?_
 refine T.new I.kIn ho hno fun h2 tk2 dx k dn dne hx hn=>?_
 have nH:H dx=none:=I.hok.fresh dn
 have ne1:∀ {b:YF} {o:Obj},hp.get? b=some o→b≠dx:=fun {b o} z=>YS (Nat.lt_of_lt_of_le (Heap.lt_size z) dn)
 have ne2:∀ {b:YF},H b=none→b≠a:=fun {b} n z=>by rw[z,e]at n; cases n
 have U:Un X.fs [] H (upd (upd H dx (exd dx [(f,y)])) a (exo a C (some dx))) hp h2:={
  keep:=fun b o z n _ _=>k b o (ne2 n) z
  slot:=fun b o z n _ _=>⟨o.slots,k b o (ne2 n) z⟩
  free:=fun b o z n _=>by rw[upd_ne (ne2 n),upd_ne (ne1 z)]; exact n
  there:=fun b o z _=>by
   by_cases hb:b=a
   ·subst hb; exact⟨_,hx⟩
   ·exact⟨o,k b o hb z⟩
  tups:=fun b xs z=>by rw[upd_ne (at_ne e z exo_tup),upd_ne (ne_of_none z nH)]; exact z
  frzs:=fun b o v z=>by rw[upd_ne (at_ne e z exo_frz),upd_ne (ne_of_none z nH)]; exact z
  tbls:=fun b ps z=>⟨#[],by rw[upd_ne (at_ne e z exo_tbl),upd_ne (ne_of_none z nH),z]; simp⟩ }
 refine h dx _ nH dne (I.un (t':=tk2) U fun b o z=>?_)
 by_cases hb:b=a
 ·subst hb
  rw[Y_]at z
  cases z
  exact exo_ok hx
 rw[upd_ne hb]at z
 by_cases hd:b=dx
 ·subst hd
  rw[Y_]at z
  cases z
  exact exd_ok hn (relO_put (fs:=[]) ry fun _=>True.intro)
 rw[upd_ne hd]at z
 refine(I.hok b o z).stay (fun c v hc w=>k c v ?_ w) (fun c hc=>?_) (fun c xs hc=>?_)
 ·rcases hc with hc | hc
  ·rw[hc]; exact hb
  ·exact at_ne e hc exo_own
 ·rw[upd_ne (at_ne e hc exo_own),upd_ne (ne_of_none hc nH)]; exact hc
 ·rw[upd_ne (at_ne e hc exo_tup),upd_ne (ne_of_none hc nH)]; exact hc
theorem Zme(T:Zky X.K C)(I:Inv X pins σ H s)(e:H a=some (exo a C (some dx)))(ed:H dx=some (exd dx fs))(hl:fs.length ≤ 900)(hno:PySem.W.findIn X.K (.ref C) f=some none)(ry:RelV y u)
  (h:∀ s',Inv X pins σ (upd H dx (exd dx ((f,y) :: fs))) s'→Q () s'):wpAny (model X.prog X.w) A (setAttr (.ref a) f u) Q E s:=by
 obtain⟨t1,ho⟩:=exo_at I.hok e
 obtain⟨mA,hns,rel⟩:=exd_at I.hok ed
 have hw:=within_of rel
 obtain⟨hp,g,d,t,os⟩:=s
 obtain⟨oD,_,_,hoD,_,_⟩:=hns.count hw
 refine PySem.W.set_plain I.kIn (ox:={ cls:=.ref C,dict:=some dx,data:=.fields #[.ref t1,.none,.none,.none,.bool false,.none] }) (od:=some oD) ⟨ho,rfl,rfl,hoD⟩ T.sa ?_
 refine T.old I.kIn ho hns hw (by rw[Yb]; omega) hno fun h2 tk2 k hn=>?_
 have hd:∃ o,h2.get? dx=some o:=by
  obtain⟨o,_,_,z,_⟩:=hn
  exact⟨o,z⟩
 exact h _ (I.write (t':=tk2) (x:=dx) (e:=dx) (o:=exd dx ((f,y) :: fs)) (by rw[ed]; exact True.intro) (.inl rfl) k hd (exd_ok hn (relO_put ry rel)))
end
def ZpF(K:YC)(f:Str)(to te:TE):TS:=fun D σ H=>te σ H fun y H1=>to σ H1 fun x H2=>∃ a C:YF,x = .ref a∧Zky K C∧PySem.W.findIn K (.ref C) f=some none ∧
 ((H2 a=some (exo a C none)∧∀ dx,H2 dx=none→dx≠a→D.nx σ (upd (upd H2 dx (exd dx [(f,y)])) a (exo a C (some dx)))) ∨
  ∃ (dx:YF) (fs:List (Str×V)),H2 a=some (exo a C (some dx))∧H2 dx=some (exd dx fs)∧fs.length ≤ 900∧D.nx σ (upd H2 dx (exd dx ((f,y) :: fs))))
theorem ZnT{X:Cx}{o e:Expr}{to te:TE}{f:Str}{p' pos:Pos}(ho:PE X o to)(he:PE X e te)(hs:swapsWith e (some (.Attribute o f p')) pos.line X.env=pure false:=by rfl):PS X (.Assign [.Attribute o f p'] e pos) (ZpF X.K f to te):=by
 refine⟨fun pins s σ H D I h=>?_⟩
 refine plainObj_wpAny_Assign_Attribute (thn (he.run pins s σ H _ I h) fun v s1 ⟨y,H1,I1,r1,q1⟩=>thn (ho.run pins s1 σ H1 _ I1 q1) fun u s2 ⟨x,H2,I2,r2,a,C,ex,T,hno,q⟩=>?_) hs
 subst ex
 obtain rfl:u=Value.ref a:=r2
 rcases q with⟨ea,q⟩ | ⟨dx,fs,ea,ed,hl,q⟩
 ·exact Zmd T I2 ea hno r1 fun dx s' n ne J=>⟨σ,_,J,q dx n ne⟩
 ·exact Zme T I2 ea ed hl hno r1 fun s' J=>⟨σ,_,J,q⟩
theorem ZnU{X:Cx}{pins:List (YF×Obj)}{σ:L2.St}{H:Hp}{s:YJ}{a C D:YF}{B newId i:String}{bmB:List YI}{body rest:List YK}{me txt:Str}{j:Nat}{p0 p1 apos cp pos epos:Pos}{pl:Sem Bool}{t:TS}{Dn:Ends}
  (T:SuC X.K C D B newId i bmB) (G:SuF X me D) (I:Inv X pins σ H s) (e:H a=some (exo a C none)) (hv : σ[0]? = some (some (.ref a))) (hr:PSs X rest t) (h:t Dn σ H)
  (hsw:swapsWith (.Call (.Attribute (.Call (.Name "super" p0) [] [] p1) "__init__" apos) [.Constant (.str txt) j cp] [] pos) none epos.line X.env=pure false)
  (he:eval (.Call (.Attribute (.Call (.Name "super" p0) [] [] p1) "__init__" apos) [.Constant (.str txt) j cp] [] pos) X.env=(do
   let ov ← attributeBase (.Call (.Name "super" p0) [] [] p1) "__init__" X.env (eval (.Call (.Name "super" p0) [] [] p1) X.env)
   standAt apos.atName
   let (f,first) ← holding [ov] (getMethod ov "__init__" pl)
   callWith pos f first (backTo pos (starEach [.Constant (.str txt) j cp] X.env)) [])) :
  PySem.wpAt (model X.prog X.w) X.A (.func body X.env) (execs (.Expr (.Call (.Attribute (.Call (.Name "super" p0) [] [] p1) "__init__" apos) [.Constant (.str txt) j cp] [] pos) epos :: rest) X.env) (SP X pins Dn) X.xe s:=by
 refine PySem.ks_wpAt_execs_cons (Zla T G I e hv (fun s' I'=>?_) hsw he)
 exact wpAt_of_wpAny (hr.run pins s' σ H Dn I' h)
structure ZpG(K:YC)(C fI:YF)(B newId i:String)(bmB:List YI)(fs:List Str):Prop where
 su:SuC K C C B newId i bmB
 og:Zky K C
 exC:PySem.W.subIn K (.ref C) (.type "BaseException")=some true
 tyC:PySem.W.typeIn K (.ref C)=some (.type "type")
 kC:PySem.W.keepIn K (.ref C)=true
 iC:PySem.W.findIn K (.ref C) "__init__" = some (some (.ref fI))
 tI:PySem.W.typeIn K (.ref fI)=some (.type "function")
 no:∀ f∈fs,PySem.W.findIn K (.ref C) f=some none
def Zir(C:YF)(fs:List Str):Sp:=fun vs H Q _=>∃ a ws,vs = .ref a :: ws∧ws.length=fs.length∧H a=some (exo a C none)∧∀ d,H d=none→d≠a→Q .non (upd (upd H d (exd d (fs.zip ws).reverse)) a (exo a C (some d)))
def ZrY(C:YF)(fs:List Str)(ta:TA):L2.St→Hp→XK→Prop:=fun σ H Q=>ta σ H fun zs H1=>zs.length=fs.length∧zs.length ≤ 1000∧∀ d,H1 d=none→Q (.ref C) (some d) (upd H1 d (.xd (fs.zip zs).reverse))
theorem ZnV{X:Cx}{pins:List (YF×Obj)}{σ:L2.St}{H1 H2:Hp}{Q:XK}{hp hp2 h2:Heap}{g1 g2:Array GenState}{d1 d2:Drawn}{t1 t2:Nat}{os1 os2:OsState}{a C d:YF}{fs:List (Str×V)}(T:Raises X (.ref C))(I1:Inv X pins σ H1 ⟨hp,g1,d1,t1,os1⟩)
  (ha:hp.objs.size ≤ a) (k:∀ b o,hp.get? b=some o→hp2.get? b=some o) (un:Un (frs X.stack) [] (upd H1 a (exo a C none)) H2 hp2 h2) (hok:HOk X.prog X.w H2 h2) (ho:os2=os1) (hb:AllBare g2)
  (ea:H2 a=some (exo a C (some d))) (ed:H2 d=some (exd d fs)) (hd1:H1 d=none) (q:Q (.ref C) (some d) (upd (del H2 a) d (.xd fs))):L2N.MkP X pins σ Q (.ref a) ⟨h2,g2,d2,t2,os2⟩:=by
 obtain⟨t0,G,J,kG,ge,hoe,na⟩:=mk_end0 (d2:=d2) (t2:=t2) I1 ha k un hok ho hb ea ed hd1
 exact⟨a,_,_,⟨G,g2,d2,t2,os2⟩,_,.ref C,some d,rfl,J,kG,ge,hoe,⟨rfl,rfl,fun vs e=>by cases e; rfl⟩,rfl,rfl,na,rfl,hb,T,q⟩
theorem ZpH{X:Cx}{CX:CXT}{x:Str}{C fI:YF}{k:Nat}{fd:YE}{B newId i:String}{bmB:List YI}{fs:List Str}{kws:List Keyword}{tk:TA}{p pos:Pos}(T:ZpG X.K C fI B newId i bmB fs)(F1:Xn X.prog X.w X.K X.mg X.base CX k fI fd ("self" :: fs) (Zir C fs)) (hr:Room (k + 1) X.A)
  (hb:∀ (s:YJ) (u:YI) (ws:List YI),ws.length=fs.length→BindsTo s fd ⟨[u],fs.zip ws⟩ ((("self" : Str) :: fs).zip (u :: ws))) (hx:Passes CX X (fun _ _ _=>False)) (hg:Gl X x) (hm:X.mg x=some (.ref C)) (hkw:PK X kws tk)
  (hall:(backToKw pos (keywordEach kws X.env)).all (·.1.isSome)=true:=by rfl) (hks:(backToKw pos (keywordEach kws X.env)).filterMap (·.1)=fs:=by rfl) (hdb:(x == ("__debug__" : Str))=false:=by decide)
  (hpl:((backTo pos (starEach [] X.env)).any (·.1) || (backToKw pos (keywordEach kws X.env)).any (·.1.isNone))=false:=by rfl) :
  L2N.PMk X (.Call (.Name x p) [] kws pos) (ZrY C fs tk):=by
 intro pins s σ H Q I h
 refine wpAny_Call_Name_kw (ld_glob I hg hm ?_ hdb)
 refine PySem.W.callWith_KW0 (h₀:=X.base) I.ok.mod.kin T.kC hall ?_ hpl
 refine thn (hkw.run pos pins s σ H _ I h) fun ws s1 ⟨zs,H1,I1,rz,lz,lz2,q1⟩=>⟨I1.kIn,?_⟩
 rw[hks]
 show wpAny _ _ (call (.ref C) [] (fs.zip ws)) _ _ _
 obtain⟨nm,N',qn,bs,bm,hdct,sn,sub,ab,col,dd,k0,k1,k2,k3,k5,hC,hT⟩:=PySem.W.excInit_of I1.kIn T.su.cls
 obtain⟨hp,g,dr,tkk,os⟩:=s1
 have hsz:hp.objs.size ≤ hp.objs.size + 1:=Nat.le_succ _
 have hn:H1 (hp.objs.size + 1)=none:=I1.hok.fresh hsz
 have kk:∀ b o,hp.get? b=some o→((hp.push (PySem.W.kdv_tup [])).push (PySem.HandSPX.excO C hp.objs.size)).get? b=some o:=fun b o e=>YN _ (YN _ e)
 have hget:((hp.push (PySem.W.kdv_tup [])).push (PySem.HandSPX.excO C hp.objs.size)).get? (hp.objs.size + 1)=some (PySem.HandSPX.excO C hp.objs.size):=by heap_get
 have I2:Inv X pins σ (upd H1 (hp.objs.size + 1) (exo (hp.objs.size + 1) C none)) ⟨(hp.push (PySem.W.kdv_tup [])).push (PySem.HandSPX.excO C hp.objs.size),g,dr,tkk,os⟩ :=
  I1.laid (t':=tkk) (a:=hp.objs.size + 1) (o:=exo (hp.objs.size + 1) C none) (h':=(hp.push (PySem.W.kdv_tup [])).push (PySem.HandSPX.excO C hp.objs.size)) kk hsz (exo_ok hget)
 have lw:ws.length=fs.length:=by rw[← rz.length]; exact lz
 have r2:Vals (V.ref (hp.objs.size + 1) :: zs) (Value.ref (hp.objs.size + 1) :: ws):=.cons rfl rz
 have hsp:Zir C fs (V.ref (hp.objs.size + 1) :: zs) (upd H1 (hp.objs.size + 1) (exo (hp.objs.size + 1) C none))
   (fun v H2=>v = .non∧∃ (d:YF) (gs:List (Str×V)),H2 (hp.objs.size + 1)=some (exo (hp.objs.size + 1) C (some d))∧H2 d=some (exd d gs)∧H1 d=none∧Q (.ref C) (some d) (upd (del H2 (hp.objs.size + 1)) d (.xd gs))) (fun _ _ _=>False):=by
  refine⟨_,zs,rfl,lz,Y_,fun d hd hda=>⟨rfl,d,(fs.zip zs).reverse,Y_,?_,?_,?_⟩⟩
  ·rw[upd_ne hda,Y_]
  ·rw[upd_ne hda]at hd; exact hd
  ·have hd1:H1 d=none:=by rw[upd_ne hda]at hd; exact hd
   have z:=q1 d hd1
   have e:upd (del (upd (upd (upd H1 (hp.objs.size + 1) (exo (hp.objs.size + 1) C none)) d (exd d (fs.zip zs).reverse)) (hp.objs.size + 1) (exo (hp.objs.size + 1) C (some d))) (hp.objs.size + 1)) d (.xd (fs.zip zs).reverse)=upd H1 d (.xd (fs.zip zs).reverse):=by
    funext b
    by_cases h1:b=d
    ·rw[h1,Y_,Y_]
    ·rw[upd_ne h1,upd_ne h1]
     by_cases h2:b=hp.objs.size + 1
     ·rw[h2,del_same,hn]
     ·rw[del_ne h2,upd_ne h2,upd_ne h1,upd_ne h2]
   rw[e]
   exact z
 refine wpAny_call (PySem.MXP.call_kw T.su.fb hT hC (PySem.W.looks_findIn I1.kIn T.iC) (fun self=>PySem.W.bind_fn I1.kIn self T.tI) (by show 0 ≤ _; exact YR _)
  (codeAny_mono (F1.run _ X.stack _ _ ⟨[Value.ref (hp.objs.size + 1)],fs.zip ws⟩ (Value.ref (hp.objs.size + 1) :: ws) _ _ (fun _ _ _=>False) (hr.make C [] (fs.zip ws)) (I2.env0.make C [] (fs.zip ws)) (hb _ _ _ lw) r2 hsp) fun r s' hq'=>?_))
 cases r with
 | error er=>exact hx pins σ _ _ er s' I2 hq'
 | ok fl =>
   cases fl with
   | ret u =>
     obtain⟨v,H2,os2,bare2,un2,hok2,rv,ev,d,gs,ea,ed,hd1,q2⟩:=hq'
     subst ev
     obtain⟨h2,g2,d2,t2,os'⟩:=s'
     exact⟨rv,ZnV (raises_own T.exC T.tyC) I1 hsz kk un2 hok2 os2 bare2 ea ed hd1 q2⟩
   | next=>exact False.elim hq'
   | brk=>exact False.elim hq'
   | cont=>exact False.elim hq'
structure Zmf(P:YG)(K:YC)(qual:Str)(st:YK)(f C:YF)(fd:YE):Prop where
 ex:∃ (oc:YI) (od:Option YF) (dV kV doc pm:YI) (an:Option YF) (cdv ct:YI) (osl:Array (Option YI)) (cc:YF) (cl:YI) (cld:Option YF) (csl:Array (Option YI)) (cda:YF) (ccl:YI) (cdd:Option YF) (vs:Array YI) (ccs:Array (Option YI)) (file:Str) (tf:Tok),
  fd=fnS "__init__" qual (Y3 st) (Y2 st) (YW st) dV kV doc pm an cdv ct cc∧K.lookup f=some ⟨oc,od,.func fd,osl⟩∧PySem.W.codeIn K cdv qual=true∧K.lookup cc=some ⟨cl,cld,.cell (some (.ref C)),csl⟩∧cdv = .ref cda∧K.lookup cda=some ⟨ccl,cdd,.fields vs,ccs⟩∧vs[2]? = some (.str file tf)∧((P.main.file:Str) == file)=true
structure ZpI(P:YG)(mg:Str→Option YI)(st:YK):Prop where
 ks:(YW st).names.lookup ("super" : Str)=some .globalImplicit
 kc:(YW st).names.lookup ("__class__" : Str)=some .free
 loc:(YW st).names.lookup ("self" : Str)=some .local
 ar:∃ ar:Arg,((Y3 st).posonlyargs++(Y3 st).args).head? = some ar∧ar.arg=("self" : Str)
 mg:mg "super" = none
 top:(P.main.scope.names.lookup ("super" : Str)).isSome=false
def ZrZ(txt:Str)(j:Nat)(p0 p1 apos cp pos epos:Pos):YK:=.Expr (.Call (.Attribute (.Call (.Name "super" p0) [] [] p1) "__init__" apos) [.Constant (.str txt) j cp] [] pos) epos
def ZpJ(f:Str)(q1 q2 q3 q4:Pos):YK:=.Assign [.Attribute (.Name "self" q1) f q2] (.Name f q3) q4
def Ztq(txt:Str)(j:Nat)(p0 p1 apos cp pos:Pos):Prop:=∀ env:Env,∃ pl:Sem Bool,eval (.Call (.Attribute (.Call (.Name "super" p0) [] [] p1) "__init__" apos) [.Constant (.str txt) j cp] [] pos) env=(do
   let ov ← attributeBase (.Call (.Name "super" p0) [] [] p1) "__init__" env (eval (.Call (.Name "super" p0) [] [] p1) env)
   standAt apos.atName
   let (f,first) ← holding [ov] (getMethod ov "__init__" pl)
   callWith pos f first (backTo pos (starEach [.Constant (.str txt) j cp] env)) [])
section
variable {CX:CXT} {P:YG} {w:YH} {K:YC} {mg:Str→Option YI} {base:Heap} {k:Nat} {fI C:YF} {fd:YE} {qual:Str} {st:YK} {B newId i:String} {bmB:List YI} {txt:Str} {j:Nat} {p0 p1 apos cp pos epos:Pos}
theorem ZpK{N:List Str}{A:Around}{outer:List Env}{s:YJ}{H:Hp}{E:XK}{oc:YI}{od:Option YF}{dV kV doc pm:YI}{an:Option YF}{ct:YI}{osl:Array (Option YI)}{cc cda:YF}{cl:YI}{cld:Option YF}{csl:Array (Option YI)}{ccl:YI}{cdd:Option YF}{vs:Array YI}{ccs:Array (Option YI)}{file:Str}{tf:Tok}
  (t:ZpI P mg st) (T:SuC K C C B newId i bmB) (hN:N[0]? = some ("self" : Str)) (lk:K.lookup fI=some ⟨oc,od,.func (fnS "__init__" qual (Y3 st) (Y2 st) (YW st) dV kV doc pm an (.ref cda) ct cc),osl⟩) (hcc:K.lookup cc=some ⟨cl,cld,.cell (some (.ref C)),csl⟩)
  (hco:K.lookup cda=some ⟨ccl,cdd,.fields vs,ccs⟩) (hvs:vs[2]? = some (.str file tf)) (hfile:((P.main.file:Str) == file)=true):SuF (cxS CX P w K mg base N qual (YW st) fI (.ref cda) cc A outer s H E) "self" C:=by
 obtain⟨ar,h1,h2⟩:=t.ar
 refine⟨t.ks,t.kc,t.loc,hN,t.mg,t.top,⟨fI,oc,od,_,osl,ar,rfl,lk,h1,h2⟩,⟨cda,ccl,cdd,vs,ccs,file,tf,rfl,hco,hvs,hfile⟩,⟨cc,cl,cld,csl,by show([("__class__",cc)]:List (Str×YF)).lookup _=_; simp,hcc⟩,?_⟩
 show ∃ cdD,PySem.W.clsIn K C=some cdD
 have h:=T.cls
 unfold PySem.W.excInitIn at h
 unfold PySem.W.clsIn
 split at h
 ·rename_i dd cd sl ho
  rw[ho]
  exact⟨cd,rfl⟩
 ·cases h
theorem ZnW{f1:Str}{q1 q2 q3 q4:Pos}(S:Zjg ["self",f1] ["self",f1] (YW st)) (D:Zmf P K qual st fI C fd) (T:ZpG K C fI B newId i bmB [f1]) (t:ZpI P mg st) (hb:Y2 st=[ZrZ txt j p0 p1 apos cp pos epos,ZpJ f1 q1 q2 q3 q4]) (ev:Ztq txt j p0 p1 apos cp pos)
  (l1:(YW st).names.lookup f1=some .local) (n1:(f1 == ("__debug__" : Str))=false) (c1:(f1 == ("__classdict__" : Str))=false):Xn P w K mg base CX (k + 1) fI fd ["self",f1] (Zir C [f1]):=by
 obtain⟨oc,od,dV,kV,doc,pm,an,cdv,ct,osl,cc,cl,cld,csl,cda,ccl,cdd,vs,ccs,file,tf,rfl,lk,hcd,hcc,rfl,hco,hvs,hfile⟩:=D.ex
 refine ZpE lk hcd S hcc rfl (fun vs H Q E h=>?_) (fun A outer s H vs Q E s1 hr hsp I=>?_)
 ·obtain⟨a,ws,rfl,hl,_⟩:=h
  rw[Yd,hl]; rfl
 ·obtain⟨a,ws,rfl,hl,ha,q⟩:=hsp
  match ws,hl with
  | [y],_ =>
  have G:=ZpK (CX:=CX) (w:=w) (base:=base) (N:=["self",f1]) (A:=A) (outer:=outer) (s:=s) (H:=H) (E:=E) t T.su rfl lk hcc hco hvs hfile
  obtain⟨pl,he⟩:=ev (cxS CX P w K mg base ["self",f1] qual (YW st) fI (.ref cda) cc A outer s H E).env
  rw[hb]
  refine ZnU (pl:=pl) (t:=ZpF K f1 (YU 0) (YU 1)) (Dn:={ nx:=fun _ H'=>Q .non H',rt:=Q }) T.su G I ha rfl (YZ (ZnT (pv 0 (x := "self") (hN:=rfl) (hv:=.inl t.loc)) (pv 1 (x:=f1) (hN:=rfl) (hv:=.inl l1) (hd:=n1) (hcd:=c1)))) ?_ rfl he
  exact⟨y,rfl,.ref a,rfl,a,C,rfl,T.og,T.no f1 (by simp),.inl ⟨ha,fun dx hd hne=>q dx hd hne⟩⟩
end
section
variable {X:Cx} {pins:List (YF×Obj)} {σ:L2.St} {H:Hp} {s:YJ}
theorem Zmg{a T:YF}(I:Inv X pins σ H s)(na:H a=none)(nt:H T=none)(a0:X.s_0.heap.get? a=none)(t0:X.s_0.heap.get? T=none)(aL:a≠X.env.locals)(tL:T≠X.env.locals)
  (nc:∀ x c,X.env.cells.lookup x=some c→c≠a∧c≠T) (np:∀ p∈X.pn++pins,p.1≠a∧p.1≠T):Inv X pins σ H { s with heap:=PySem.W.hideAll s.heap [a,T] }:=by
 have k:∀ b,b≠a→b≠T→∀ o,s.heap.get? b=some o→(PySem.W.hideAll s.heap [a,T]).get? b=some o:=fun b h1 h2 o e=>PySem.W.hideAll_get _ e (by simp[h1,h2])
 have n0:∀ b o,X.s_0.heap.get? b=some o→b≠a∧b≠T:=fun b o e=>⟨fun z=>(by rw[z,a0]at e; cases e),fun z=>(by rw[z,t0]at e; cases e)⟩
 have nH:∀ b o,H b=some o→b≠a∧b≠T:=fun b o e=>⟨fun z=>(by rw[z,na]at e; cases e),fun z=>(by rw[z,nt]at e; cases e)⟩
 obtain⟨m,hn,hl⟩:=I.loc
 refine⟨I.ok,I.os,I.bare,⟨fun b o e n h1 h2=>?_,fun b o e n h1 h2=>?_,I.base.free,fun b o e h2=>?_,I.base.tups,I.base.frzs,I.base.tbls⟩,⟨m,hn.at fun o e=>k _ (Ne.symm aL) (Ne.symm tL) o e,fun i x v e1 e2 e3=>?_⟩,fun x c e=>?_,I.free,I.freeC,fun p hp=>?_,fun b o e=>?_,I.len⟩
 ·exact k b (n0 b o e).1 (n0 b o e).2 o (I.base.keep b o e n h1 h2)
 ·obtain⟨sl,e1⟩:=I.base.slot b o e n h1 h2
  exact⟨sl,k b (n0 b o e).1 (n0 b o e).2 _ e1⟩
 ·obtain⟨o',e1⟩:=I.base.there b o e h2
  exact⟨o',k b (n0 b o e).1 (n0 b o e).2 _ e1⟩
 ·obtain⟨u,ru,q⟩:=hl i x v e1 e2 e3
  refine⟨u,ru,?_⟩
  rcases q with q | ⟨q,c,e,o,z1,z2⟩
  ·exact .inl q
  ·exact .inr ⟨q,c,e,o,k c (nc x c e).1 (nc x c e).2 o z1,z2⟩
 ·obtain⟨v,o,z1,z2⟩:=I.cell x c e
  exact⟨v,o,k c (nc x c e).1 (nc x c e).2 o z1,z2⟩
 ·obtain⟨z,r⟩:=I.pin p hp
  exact⟨k _ (np p hp).1 (np p hp).2 _ z,r⟩
 ·refine(I.hok b o e).stay (fun c v hc z=>?_) (fun _ h=>h) fun _ _ h=>h
  rcases hc with rfl | hc
  ·exact k _ (nH _ _ e).1 (nH _ _ e).2 v z
  ·exact k _ (nH _ _ hc).1 (nH _ _ hc).2 v z
end
structure Fly(X:Cx)(a:YF)(oe:Obj)(T:YF)(oT:Obj)(cls:YI)(d:Option YF):Prop where
 z:Zc cls d oe
 f:∃ vs ts,oe.data = .fields vs∧vs[1]? = some (.ref T)∧oT.data = .fields ts∧ts[3]? = some .none
 ne:T≠a
 a0:X.s_0.heap.get? a=none
 t0:X.s_0.heap.get? T=none
abbrev suY(X:Cx)(a:YF)(oe:Obj)(T:YF)(oT:Obj)(pins:List (YF×Obj))(xe:YI→YJ→Prop):Cx:={ X with A:=X.A.mark (some (.ref a)),calm:=false,pn:=(a,oe) :: (T,oT) :: (X.pn++pins),xe:=xe }
structure ZpL(X:Cx)(a:YF)(oe:Obj)(T:YF)(oT:Obj)(cls:YI)(d:Option YF)(pins:List (YF×Obj)):Prop where
 z:L2N.Zn cls d oe
 f:∃ vs ts,oe.data = .fields vs∧vs[1]? = some (.ref T)∧oT.data = .fields ts∧3 < ts.size
 ne:T≠a
 a0:X.s_0.heap.get? a=none
 t0:X.s_0.heap.get? T=none
 np:∀ p∈X.pn++pins,p.1≠a∧p.1≠T
 hs:X.stack=X.env :: X.outer
 hf:X.env.frame=some X.env.locals
 ok:X.Ok
section
variable {X:Cx} {a T:YF} {oe oT:Obj} {cls:YI} {d:Option YF} {pins pn':List (YF×Obj)} {σ:L2.St} {H:Hp} {s:YJ} {xe:YI→YJ→Prop} {W:WX}
theorem ZpM(I:Inv (suY X a oe T oT pins xe) pn' σ H s)(ok:X.Ok):Inv X pins σ H s :=
 ⟨ok,I.os,I.bare,I.base,I.loc,I.cell,I.free,I.freeC,fun p hp=>I.pin p (Yo _ (Yf _ (Yf _ hp))),I.hok,I.len⟩
theorem ZpN{oT':Obj}{ts:Array YI}{fl:YI}(F:ZpL X a oe T oT cls d pins)(J:Inv X pins σ H s)(ha:s.heap.get? a=some oe)(hT:s.heap.get? T=some oT')(hdT:oT'.data = .fields ts)(h3:ts[3]? = some fl)(na:H a=none)(nt:H T=none)(tk:L2N.Takes X W)(w:W cls d σ H)
  {A:Around} {E:YI→YJ→Prop} {Q:Unit→YJ→Prop} (hQ:∀ s',X.xe (.ref a) s'→Q () s'):wpAny (model X.prog X.w) A (setFlight (.ref a) X.env.frame) Q E s:=by
 obtain⟨vs,ts0,hd,h1,_,_⟩:=F.f
 have dne:∀ {p:YF} {o:Obj} {ys:Array YI},s.heap.get? p=some o→o.data = .fields ys→p≠X.env.locals∧∀ x c,X.env.cells.lookup x=some c→c≠p:=fun {p o ys} e n=>by
  refine⟨fun z=>?_,fun x c hc z=>?_⟩
  ·obtain⟨m,⟨oL,es,ep,e1,e2,_⟩,_⟩:=J.loc
   rw[z,e1]at e
   cases e
   rw[e2]at n
   cases n
  ·obtain⟨v,o',z1,z2⟩:=J.cell x c hc
   rw[z,e]at z1
   cases z1
   rw[n]at z2
   cases z2
 have G:=Zmg J na nt F.a0 F.t0 (dne ha hd).1 (dne hT hdT).1 (fun x c hc=>⟨(dne ha hd).2 x c hc,(dne hT hdT).2 x c hc⟩) F.np
 obtain⟨B,eB⟩:∃ B:Heap,B=PySem.W.hideAll (PySem.W.hideAll s.heap [a,T]) (frs X.stack):=⟨_,rfl⟩
 have Bn:∀ b,b∈[a,T]→B.get? b=none:=fun b hb=>by
  cases q:B.get? b with
  | none=>rfl
  | some o =>
    rw[eB]at q
    have z:=PySem.W.of_hideAll _ q
    rw[PySem.W.hideAll_none _ hb]at z
    cases z
 have BS:B.StaysIn s.heap:=fun b o e=>by
  rw[eB]at e
  exact PySem.W.of_hideAll _ (PySem.W.of_hideAll _ e)
 have FF:s.heap.FunFrames B X.stack:=funFrames_none J.stack fun b hb=>by rw[eB]; exact PySem.W.hideAll_none _ hb
 rw[F.hf]
 refine HandSPX.setFlight_anyZ (Z:=L2N.Zn cls d) (fl:=fl) BS FF ⟨oe,vs,T,oT',ts,ha,F.z,hd,h1,Bn T (by simp),F.ne,hT,hdT,h3⟩ fun h4 k1 k2 k3 k4=>hQ _ (tk _ _ ?_)
 refine⟨a,B,{ s with heap:=PySem.W.hideAll s.heap [a,T] },pins,σ,H,cls,d,rfl,G,fun b o e hb=>?_,?_,.inr (.inr ⟨k1,Bn a (by simp),k2,k3⟩),na,rfl,J.bare,w⟩
 ·rw[eB]; exact PySem.W.hideAll_get _ e hb
 ·exact(Heap.UpToSlots.of_keeps fun b o e=>PySem.W.of_hideAll _ e).trans k4
theorem Zmh(I:Inv (suY X a oe T oT pins xe) pn' σ H s):s.heap.get? a=some oe∧s.heap.get? T=some oT∧H a=none∧H T=none:=by
 have P1:=I.pin (a,oe) (Yo _ Yg)
 have P2:=I.pin (T,oT) (Yo _ (Yf _ Yg))
 exact⟨P1.1,P2.1,P1.2.1,P2.2.1⟩
end
structure Wait(X:Cx)(pins:List (YF×Obj))(a:YF)(σ:L2.St)(H:Hp)(cls:YI)(d:Option YF)(s:YJ):Prop where
 ex:∃ (B:Heap) (sI:YJ),Inv X pins σ H sI∧(∀ b o,sI.heap.get? b=some o→b∉frs X.stack→B.get? b=some o)∧sI.heap.UpToSlots s.heap∧HandSPX.FlyingZ B (X.env :: X.outer) a (L2N.Zn cls d) s.heap∧H a=none∧s.os=sI.os∧AllBare s.gens
structure PH(X:Cx)(hds:List ExceptHandler)(wh:Ends→WX):Prop where
 run:∀ (pins:List (YF×Obj)) (D:Ends) (a:YF) (σ:L2.St) (H:Hp) (cls:YI) (d:Option YF) (s:YJ),Wait X pins a σ H cls d s→wh D cls d σ H→wpAny (model X.prog X.w) X.A (handleBy (.ref a) X.env hds) (SP X pins D) X.xe s
structure Zmi(X:Cx):Prop where
 hs:X.stack=X.env :: X.outer
 hf:X.env.frame=some X.env.locals
 hex:X.ex=[]
 hpa:∀ hd:Option YI,PassesOwnAt (model X.prog X.w) (X.A.mark hd) X.A X.env X.xe
section
variable {X:Cx} {pins:List (YF×Obj)} {a:YF} {σ:L2.St} {H:Hp} {cls:YI} {d:Option YF} {s:YJ}
theorem Wait.inv(C:Zmi X)(w:Wait X pins a σ H cls d s):Inv X pins σ H s:=by
 obtain⟨B,sI,I,nb,up,fl,na,os,ag⟩:=w.ex
 exact I.landed nb fl.1 up os ag
theorem Wait.fly(C:Zmi X)(w:Wait X pins a σ H cls d s):∃ oe T oT vs ts,ZpL X a oe T oT cls d pins∧s.heap.get? a=some oe∧s.heap.get? T=some oT∧oe.data = .fields vs∧oT.data = .fields ts∧ts[3]? = some .none∧H a=none∧H T=none∧a∉X.fs∧T∉X.fs:=by
 obtain⟨B,sI,I,nb,up,fl,na,os,ag⟩:=w.ex
 obtain⟨k1,k2,k3,oe,vs,T,oT,ts,he,hz,hd,h1,hnT,hTe,hT,hdT,h3⟩:=fl
 have nfr:∀ {p:YF} {o:Obj} {ys:Array YI},s.heap.get? p=some o→o.data = .fields ys→p∉frs X.stack:=fun {p o ys} e n hm=>by
  rw[C.hs]at hm
  obtain⟨_,o',e',hnf⟩:=k3.mem hm
  rw[e]at e'; cases e'
  exact hnf _ n
 have fsub:∀ b,b∈X.fs→b∈frs X.stack:=fun b hb=>by
  rw[C.hs]
  obtain⟨e,he,q⟩:=List.mem_filterMap.mp hb
  exact List.mem_filterMap.mpr ⟨e,Yf _ he,q⟩
 have aI:sI.heap.get? a=none:=by
  cases q:sI.heap.get? a with
  | none=>rfl
  | some o=>have z:=nb a o q (nfr he hd); rw[k2]at z; cases z
 have tI:sI.heap.get? T=none:=by
  cases q:sI.heap.get? T with
  | none=>rfl
  | some o=>have z:=nb T o q (nfr hT hdT); rw[hnT]at z; cases z
 have s0:∀ b,sI.heap.get? b=none→X.s_0.heap.get? b=none:=fun b hb=>by
  cases q:X.s_0.heap.get? b with
  | none=>rfl
  | some o =>
    obtain⟨o',z⟩:=I.base.there b o q (by rw[C.hex]; simp)
    rw[hb]at z; cases z
 refine⟨oe,T,oT,vs,ts,⟨hz,⟨vs,ts,hd,h1,hdT,(Array.getElem?_eq_some_iff.mp h3).1⟩,hTe,s0 a aI,s0 T tI,fun p hp=>?_,C.hs,C.hf,I.ok⟩,he,hT,hd,hdT,h3,na,I.hok.gone tI,fun z=>nfr he hd (fsub a z),fun z=>nfr hT hdT (fsub T z)⟩
 have e:=(I.pin p hp).1
 exact⟨fun z=>(by rw[z,aI]at e; cases e),fun z=>(by rw[z,tI]at e; cases e)⟩
theorem ZpO{Wout:WX}(C:Zmi X)(tk:L2N.Takes X Wout):PH X [] (fun _=>Wout):=by
 refine⟨fun pins D a σ H cls d s w h=>?_⟩
 obtain⟨oe,T,oT,vs,ts,F,ha,hT,hd,hdT,h3,na,nt,_,_⟩:=w.fly C
 refine wpAny_handleBy_nil ?_
 obtain⟨vs',ts',hd',h1,_,_⟩:=F.f
 unfold PySem.passOn
 refine YD (wpAny_field ha hd' h1 ?_)
 rw[if_neg (show ¬ ((Value.ref T == Value.none)=true)from by simp)]
 have fin:wpAny (model X.prog X.w) X.A (setFlight (.ref a) X.env.frame) (fun _ s4=>wpAny (model X.prog X.w) X.A (throw (.ref a):Sem Flow) (SP X pins D) X.xe s4) X.xe s :=
  ZpN F (w.inv C) ha hT hdT h3 na nt tk h fun s' q=>wpAny_throw q
 first
  | exact YD (YL (YD fin))
  | exact YD fin
theorem Wait.test{x:Str}{c:YI}{np:Pos}{Q E:YI→YJ→Prop}(C:Zmi X)(hc:Names X x c)(w:Wait X pins a σ H cls d s)(q:Q c s):wpAny (model X.prog X.w) (X.A.mark (some (.ref a))) (eval (.Name x np) X.env) Q E s:=by
 obtain⟨oe,T,oT,vs,ts,F,ha,hT,hd,hdT,h3,na,nt,nF,_⟩:=w.fly C
 have J:=w.inv C
 have aL:a≠X.env.locals:=fun z=>by
  obtain⟨m,⟨oL,es,ep,e1,e2,_⟩,_⟩:=J.loc
  rw[z,e1]at ha
  cases ha
  rw[e2]at hd
  cases hd
 have S3:=J.suite ha hd na aL nF
 obtain⟨hg,hdbg,hm | ⟨hm,hv,hnn⟩⟩:=hc
 ·exact ld_glob (X:=X.suite a ((a,oe) :: (X.pn++pins))) S3 hg hm q hdbg
 ·exact ld_blt (X:=X.suite a ((a,oe) :: (X.pn++pins))) S3 hg hm hv q hnn hdbg
theorem Wait.suite{xe:YI→YJ→Prop}{oe oT:Obj}{T:YF}{vs ts:Array YI}(J:Inv X pins σ H s)(ha:s.heap.get? a=some oe)(hd:oe.data = .fields vs)(na:H a=none)(nF:a∉X.fs)(hT:s.heap.get? T=some oT)(hdT:oT.data = .fields ts)(nt:H T=none)(tF:T∉X.fs) :
  Inv (suY X a oe T oT pins xe) [] σ H s:=by
 have nL:∀ {p:YF} {o:Obj} {ys:Array YI},s.heap.get? p=some o→o.data = .fields ys→p≠X.env.locals:=fun {p o ys} e n z=>by
  obtain⟨m,⟨oL,es,ep,e1,e2,_⟩,_⟩:=J.loc
  rw[z,e1]at e
  cases e
  rw[e2]at n
  cases n
 have ok:(suY X a oe T oT pins xe).Ok:=⟨J.ok.mod,J.ok.kind,J.ok.glob,J.ok.blt,J.ok.above,J.ok.inj,J.ok.has,J.ok.cab,(fun z=>Bool.noConfusion (show false=true from z)),J.ok.frames,J.ok.stk,J.ok.exf,J.ok.bs,J.ok.bsz,J.ok.noex,J.ok.exfs,J.ok.funs,J.ok.frf⟩
 refine⟨ok,J.os,J.bare,J.base,J.loc,J.cell,J.free,J.freeC,fun p hp=>?_,J.hok,J.len⟩
 have hp':p∈(a,oe) :: (T,oT) :: (X.pn++pins):=by rw[List.append_nil]at hp; exact hp
 rcases Yn.mp hp' with rfl | hp'
 ·exact⟨ha,na,nL ha hd,nF,fun v z=>by rw[hd]at z; cases z⟩
 rcases Yn.mp hp' with rfl | hp'
 ·exact⟨hT,nt,nL hT hdT,tF,fun v z=>by rw[hdT]at z; cases z⟩
 ·exact J.pin p hp'
end
def Znl(K:YC)(c:YI)(ts:YF→YI→Option YF→TS)(wh:Ends→WX)(D:Ends):WX:=fun cls d σ H =>
 ∃ b,PySem.W.exmOne K cls c=some b∧(b=true→∀ a,H a=none→ts a cls d D σ H)∧(b=false→wh D cls d σ H)
def ZqW(K:YC)(c:YI)(i:Nat)(ts:YF→YI→Option YF→TS)(wh:Ends→WX)(D:Ends):WX:=fun cls d σ H =>
 ∃ b,PySem.W.exmOne K cls c=some b∧(b=true→∀ a,H a=none→ts a cls d { nx:=fun σ' H'=>D.nx (σ'.set i none) H',rt:=D.rt,bk:=fun σ' H'=>D.bk (σ'.set i none) H',ct:=fun σ' H'=>D.ct (σ'.set i none) H' } (σ.set i (some (.ref a))) H) ∧
   (b=false→wh D cls d σ H)
abbrev ZqX(X:Cx)(a:YF)(n:Str)(pos:Pos):YI→YJ→Prop:=AsSuiteRaised (model X.prog X.w) (X.A.mark (some (.ref a))) X.env n pos (notedBy (model X.prog X.w) (X.A.mark (some (.ref a))) X.env (cameBackBy (model X.prog X.w) X.A X.env X.xe))
section
variable {X:Cx} {x n:Str} {c:YI} {i:Nat} {suite:List YK} {b₀:YK} {np pos':Pos} {hds:List ExceptHandler} {ts:YF→YI→Option YF→TS} {wh:Ends→WX}
theorem ZnX(C:Zmi X)(hN:X.N.Nodup)(hi:X.N[i]? = some n)(hln:X.env.kindOf n=some .local)(hc:Names X x c)
  (hsu:∀ (a T:YF) (oe oT:Obj) (cls:YI) (d:Option YF) (pins:List (YF×Obj)),ZpL X a oe T oT cls d pins→PSs (suY X a oe T oT pins (ZqX X a n pos')) (b₀ :: suite) (ts a cls d)) (hr:PH X hds wh) :
  PH X (.ExceptHandler (some (.Name x np)) (some n) (b₀ :: suite) pos' :: hds) (ZqW X.K c i ts wh):=by
 refine⟨fun pins D a σ H cls d s w h=>?_⟩
 obtain⟨b,hb1,hyes,hno⟩:=h
 obtain⟨oe,T,oT,vs,tt,F,ha,hT,hd,hdT,h3,na,nt,nF,tF⟩:=w.fly C
 have J:=w.inv C
 refine wpAny_handleBy_cons (codeAny_handlers_test ?_) (by intro q; cases q)
 have LT:PySem.W.Looks (model X.prog X.w) s.heap (typeOf (.ref a)) cls:=fun A Q E s k q=>wpAny_typeOf_ref (k _ _ ha) (by rw[F.z.1]; exact q)
 have LM:=PySem.W.exm_one (M:=model X.prog X.w) J.kIn LT hb1
 refine w.test C hc (LM.here ?_)
 cases b with
 | false=>exact hr.run pins D a σ H cls d s w (hno rfl)
 | true =>
   refine codeAny_handlers_suite_as ?_
   obtain⟨B,sI,I,nb,up,fl,na',os,ag⟩:=w.ex
   refine HandSPX.lands_againZ fl fun h4 fl4 up4=>?_
   have w4:Wait X pins a σ H cls d { s with heap:=h4 }:=⟨B,sI,I,nb,up.trans up4,fl4,na',os,ag⟩
   obtain⟨oe4,T4,oT4,vs4,tt4,F4,ha4,hT4,hd4,hdT4,h34,na4,nt4,nF4,tF4⟩:=w4.fly C
   have S4:=Wait.suite (xe:=ZqX X a n pos') (w4.inv C) ha4 hd4 na4 nF4 hT4 hdT4 nt4 tF4
   refine store_ok (X:=suY X a oe4 T4 oT4 pins (ZqX X a n pos')) (v:=.ref a) S4 hN hi (.inl hln) rfl (fun s5 S5=>?_) (.inr hln)
   refine wpAny_mono ((hsu a T4 oe4 oT4 cls d pins F4).run [] s5 _ H _ S5 (hyes rfl a na)) (fun f s6 hsp=>?_) (fun e6 s6 z=>z)
   have end_:∀ {σ6:L2.St} {H6:Hp} {Q:YJ→Prop},Inv (suY X a oe4 T4 oT4 pins (ZqX X a n pos')) [] σ6 H6 s6→(∀ s7,Inv X pins (σ6.set i none) H6 s7→Q s7) →
     wpAny (model X.prog X.w) X.A (do bindName X.env n .none; unbindBehindTheSuite X.env n pos') (fun _ s7=>Q s7) X.xe s6:=fun {σ6 H6 Q} S6 hq=>gone_ok (ZpM S6 J.ok) hN hi hln hq
   cases f with
   | next=>obtain⟨σ6,H6,S6,q6⟩:=hsp; exact end_ S6 fun s7 J7=>⟨_,_,J7,q6⟩
   | brk=>obtain⟨σ6,H6,S6,q6⟩:=hsp; exact end_ S6 fun s7 J7=>⟨_,_,J7,q6⟩
   | cont=>obtain⟨σ6,H6,S6,q6⟩:=hsp; exact end_ S6 fun s7 J7=>⟨_,_,J7,q6⟩
   | ret u=>obtain⟨v6,σ6,H6,S6,r6,q6⟩:=hsp; exact end_ S6 fun s7 J7=>⟨_,_,_,J7,r6,q6⟩
theorem ZnY{body:List YK}{h0:ExceptHandler}{tb:WX→TS}{pos:Pos}(C:Zmi X)
  (hb:∀ (W:WX) (pn:List (YF×Obj)) (xe:YI→YJ→Prop),L2N.Takes (X.tr pn xe) W→PassesOwn (model X.prog X.w) X.A X.env xe→PSs (X.tr pn xe) body (tb W)) (hh:PH X (h0 :: hds) wh) :
  PS X (.Try body (h0 :: hds) [] [] pos) (fun D σ H=>tb (wh D) D σ H):=by
 refine⟨fun pins s σ H D I h=>?_⟩
 have ok:=I.ok
 have hfr:X.A.frames=some (X.env :: X.outer):=by rw[ok.frames,C.hs]
 refine wpAny_Try_except ?_
 refine wpAny_mono ((hb (wh D) (X.pn++pins) (fun e s₁=>wpAny (model X.prog X.w) X.A (noteFrame e X.env) (fun _ s₂=>wpAny (model X.prog X.w) X.A (setFlight e none) (fun _ s₃ =>
  wpAny (model X.prog X.w) X.A (handleBy e X.env (h0 :: hds)) (SP X pins D) X.xe s₃) X.xe s₂) X.xe s₁) (fun u s' xx=>?_) PassesOwn.looking).run [] s σ H D (I.toTry _) h) (fun f s1 hsp=>?_) (fun e s1 he=>he)
 ·obtain⟨a,B,sI,pins',σ',H',cls,d,rfl,J',nb,up,sky,na,os,ag,w⟩:=xx
  have J:Inv X pins σ' H' sI:=J'.ofTry ok
  have sky':Sky B (X.env :: X.outer) a (L2N.Zn cls d) X.env.locals s'.heap:=by rw[← C.hs]; exact sky
  show wpAny (model X.prog X.w) X.A (noteFrame (.ref a) X.env) _ _ _
  refine L2N.Sky.land L2N.Zn.steady hfr C.hf sky' fun h3 fl3 up3=>?_
  exact hh.run pins D a σ' H' cls d _ ⟨B,sI,J,nb,up.trans up3,fl3,na,os,ag⟩ w
 ·cases f with
  | next=>obtain⟨σ',H',J',q⟩:=hsp; exact wpAny_execs_nil ⟨σ',H',J'.ofTry ok,q⟩
  | brk=>obtain⟨σ',H',J',q⟩:=hsp; exact⟨σ',H',J'.ofTry ok,q⟩
  | cont=>obtain⟨σ',H',J',q⟩:=hsp; exact⟨σ',H',J'.ofTry ok,q⟩
  | ret u=>obtain⟨v,σ',H',J',r,q⟩:=hsp; exact⟨v,σ',H',J'.ofTry ok,r,q⟩
end
end M
namespace M
open PySem L2
def ZpP:PyData→Bool
 | .int _=>true
 | _=>false
def Zo(K:YC):Sp:=fun vs H Q _=>∃ v d,vs=[v]∧Im K H v d∧Q (.bl (ZpP d)) H
theorem Zmj{K:YC}{H:Hp}{Q:VK}{E:XK}{i:Int}(q:Q (.bl true) H):Zo K [.int i] H Q E:=⟨_,_,rfl,.int i,q⟩
theorem Zmk{K:YC}{H:Hp}{Q:VK}{E:XK}{a:YF}{ds:List PyData}(h:Im K H (.ref a) (.tuple ds))(q:Q (.bl false) H):Zo K [.ref a] H Q E:=⟨_,_,rfl,h,q⟩
end M
open PySem L2 M
local macro_rules | `(tactic| row_readAll sq) => `(tactic| first | assumption | exact Zb.sqT (by assumption) (by row_readAll sq))
local macro_rules | `(tactic| row_readAll im) => `(tactic| first | assumption | exact Im.mono (by assumption) (by row_readAll im))
local macro_rules | `(tactic| row_readAll ni) => `(tactic| first | exact Ya | (simp only [Yn, Ya, or_false, not_or]; first | assumption | (exact Ne.symm (by assumption)) | (refine ⟨?_, ?_⟩ <;> first | assumption | (exact Ne.symm (by assumption)))))
local macro_rules | `(tactic| row_readAll ob) => `(tactic| first | assumption | exact Zb.obj (by assumption) _ _ (by row_readAll ni) (by row_readAll ob))
local macro_rules | `(tactic| row_readAll n) => `(tactic| simp only [Zo8, Zo9, q_c, Ztb, Ztc, Ztd, Zo_, Zrm, Zpa, q_if, Zpb, Zte, Ztf, Zrn, Ztg, Zro, Zpc, Zrp, Zpd, q_asg, Zth, Zrq, Zpe, Zrr, q_drop, Zpf, Zpg, Zph, Zpi, Zrs, Zrt, Zpj, Zpk, ZnI,
 Zti,ZnJ,Ztj,Ztk,Ztl,Zru,Zrv,Zpl,Zrj,Zpm,Zrx,ZrA,Zps,ZrB,ZpC,Zpy,ZnP,Zpz,ZpA,Ztm,ZrC,ZrD,ZrX,q_aug,Zrw,List.getElem?_cons_zero,List.getElem?_cons_succ,  ZnM,Zry,Zpn,Zpo,Zpp,Zpq,Zpt,Zpu,Zto,q_i,q_u,ZrS,ZrT,ZrU,ZrV,Zpv,ZnO,Zpw,Zpx,Bool.not_true,Bool.not_false,true_and,if_true,if_false,Bool.false_eq_true,decide_true,decide_false,Zrz,String.reduceEq,opW,ZrE,ZrF,Ztn,ZrG,ZrH,ZrI,ZrJ,ZrK,ZrL,ZrM,ZrN,ZrO,ZrP,ZrQ,ZrR,Yd,Yi,Nat.reduceAdd,Nat.reduceEqDiff,Option.map_some,Option.map_none])
local macro_rules | `(tactic| row_readAll br) => `(tactic| first
 | ((with_reducible refine Zk2 ?_ ?_); (focus (decide +kernel)))
 | ((with_reducible refine Znb ?_ ?_); (focus (decide +kernel)))
 | ((with_reducible refine Zmc ?_ ?_); (focus (first | (decide +kernel) | (with_reducible exact Eq.refl _))))
 | ((with_reducible refine Zna ?_ ?_); (focus (first | (decide +kernel) | (with_reducible exact Eq.refl _)))))
local macro_rules | `(tactic| row_readAll s2) => `(tactic| first
 | ((with_reducible show rIx _ (V.ref _) (V.int _) _ _); refine Zgn (by row_readAll sq) (by rfl) ?_)
 | with_reducible refine ZnH (by row_readAll sq) ?_
 | with_reducible refine Zmj ?_
 | ((with_reducible show Zo _ [V.ref _] _ _ _); refine Zmk (by row_readAll im) ?_)
 | ((with_reducible show rIsi _ [V.int _,V.ty _] _ _); first | refine Znd (b:=true) (by rfl) ?_ | refine Znd (b:=false) (by rfl) ?_)
 | ((with_reducible show rIsi _ [V.bl _,V.ty _] _ _); first | refine Zne (b:=true) (by rfl) ?_ | refine Zne (b:=false) (by rfl) ?_)
 | ((with_reducible show rIsi _ [V.str _,V.ty _] _ _); first | refine Znf (b:=true) (by rfl) ?_ | refine Znf (b:=false) (by rfl) ?_)
 | ((with_reducible show rIsi _ [V.non,V.ty _] _ _); first | refine Zks (b:=true) (.base .non) (by rfl) ?_ | refine Zks (b:=false) (.base .non) (by rfl) ?_)
 | ((with_reducible show rIsi _ [V.ref _,V.ty _] _ _); first | refine Zng (b:=true) (by row_readAll sq) (by rfl) ?_ | refine Zng (b:=false) (by row_readAll sq) (by rfl) ?_))
local macro_rules | `(tactic| row_readAll op) => `(tactic| (
 (try simp only[Stm.d,Ex.d]at hi); obtain⟨a,xs,rfl,hs,ha⟩:=hi.of_tup; (try (obtain⟨v0,r,rfl,h0,ha⟩:=ha.of_cons; cases h0.of_str));
 (try (obtain⟨v1,r,rfl,h1,ha⟩:=ha.of_cons; try cases h1.of_str)); (try (obtain⟨v2,r,rfl,h2,ha⟩:=ha.of_cons; try cases h2.of_str));
 (try (obtain⟨v3,r,rfl,h3,ha⟩:=ha.of_cons; try cases h3.of_str)); cases ha.of_nil))
local macro_rules | `(tactic| row_readAll sz) => `(tactic| first | omega | (simp only [Z3, str_len]; omega) | (simp only [Z3, str_len] at *; omega))
local macro_rules | `(tactic| row_readAll nx) => `(tactic| first | with_reducible refine Zrl ?_ | with_reducible refine Zta ?_)
local macro_rules | `(tactic| row_readAll s) => `(tactic| first | row_readAll n | row_readAll s2 | row_readAll br | row_readAll nx)
local macro_rules | `(tactic| row_readAll go) => `(tactic| repeat row_readAll s)
local macro_rules | `(tactic| row_readAll kp) => `(tactic| first | assumption | exact Zb.refl _ _ | exact Zb.back (by assumption) (by row_readAll kp) | exact Zb.back0 (by assumption) (by row_readAll kp))
local macro_rules | `(tactic| row_readAll ln) => `(tactic| (simp only [Yd, Yi, Z3]; decide))
local macro_rules | `(tactic| row_readAll s3) => `(tactic| first
 | row_readAll s
 | ((with_reducible show _ ≤ YM∧_); refine⟨by row_readAll sz,?_⟩)
 | ((with_reducible show mkT _ _ _ _); refine Zj (by row_readAll ln) fun _ _ _ _ _=>?_)
 | ((with_reducible show Zi9 _ (V.str _) (V.ref _) _ _); first | refine Zk6 (by row_readAll sq) ?_ | refine ZnK (by row_readAll sq) ?_)
 | (simp only[Bool.or_false,Bool.or_true,Bool.true_or,Bool.false_or,Bool.and_true,Bool.true_and,Bool.false_and,Bool.and_false]))
local macro_rules | `(tactic| row_readAll ga) => `(tactic| repeat row_readAll s3)
namespace M
open PySem L2
def Zcx(K:YC)  : TS:=(Xj (tAndV (tCB (rIsi K) (YV (YU 0) (YV (tC (.ty "int")) Y1))) (tNotV (tCB (rIsi K) (YV (YU 0) (YV (tC (.ty "bool")) Y1))))))
def Zis:List Str:=["value"]
theorem Zgq{K:YC}(vs:List V)(H:Hp)(Q:VK)(E:XK)(h:Zo K vs H Q E):Zcx K { nx:=fun _ H'=>Q .non H',rt:=Q } (start Zis vs) H:=by
 obtain⟨v,d,rfl,hi,q⟩:=h
 show Zcx K _ [some v] H
 unfold Zcx
 cases hi <;> (row_readAll go; exact q)
end M
namespace M
open PySem PySem.Spec PyProof.Rows L2
abbrev GI(mg:Str→Option YI)(x:Str)(i:Int):Prop:=∃ u,mg x=some u∧RelV (.int i) u
abbrev GS(mg:Str→Option YI)(x:Str)(z:Str):Prop:=∃ u,mg x=some u∧RelV (.str z) u
def Wk(S:List YF)(J:It)(xs:List V)(H:Hp):Prop:=∀ H2,Zb S H H2→J.stop xs.length H2∧(∀ i,i < xs.length→J.go i H2)∧∀ i x H3,i < xs.length→J.yld i H2 x H3→xs[i]? = some x∧Zb [] H2 H3
section
variable {K:YC} {σ:L2.St} {H:Hp} {Q:VK} {D:Ends} {S:List YF}
theorem Wk.tup{a:YF}{xs:List V}(h:SqT K H a xs):Wk S (Itt K a) xs H:=fun H2 k =>
 ⟨⟨xs,k.sqT h,YQ _⟩,fun i hi=>⟨xs,xs[i],k.sqT h,by simp[hi]⟩,fun i x H3 _ y=>⟨y.2 xs (k.sqT h),y.1 ▸ Zb.refl _ _⟩⟩
theorem Wk.lst{a:YF}{xs:List V}(h:SqL K H a xs)(n:a∉S):Wk S (Itl K a) xs H:=fun H2 k =>
 ⟨⟨xs,k.sqL n h,YQ _⟩,fun i hi=>⟨xs,xs[i],k.sqL n h,by simp[hi]⟩,fun i x H3 _ y=>⟨y.2 xs (k.sqL n h),y.1 ▸ Zb.refl _ _⟩⟩
def signs(x:Str):List V:=x.cps.toList.map fun c=>V.str ⟨#[c]⟩
theorem Wk.str{x:Str}:Wk S (Its x) (signs x) H:=fun H2 k=>by
 have e:(signs x).length=x.cps.size:=by simp[signs]
 refine⟨show x.cps.size ≤ _ by omega,fun i hi=>show i < x.cps.size by omega,fun i v H3 hi y=>?_⟩
 obtain⟨rfl,c,hc,rfl⟩:=y
 refine⟨?_,Zb.refl _ _⟩
 simp only[signs,Ym,Array.getElem?_toList,hc,Option.map_some]
theorem Zgr{J:It}{xs:List V}{g:TG}{tb:TS}(w:Wk S J xs H)(Pv:Nat→L2.St→Hp→Prop)(hK:∀ i σ' H',Pv i σ' H'→Zb S H H')(h0:Pv 0 σ H)
  (hs:∀ i x σ' H1 H2,xs[i]? = some x→Pv i σ' H1→Zb [] H1 H2→g x σ' H2 fun σ2 H3=>tb { D with nx:=Pv (i + 1),ct:=Pv (i + 1),bk:=D.nx } σ2 H3) (hd:∀ σ' H',Pv xs.length σ' H'→D.nx σ' H'):Zje J g tb D σ H:=by
 refine loop_gen xs.length Pv h0 (fun σ' H' p=>(w H' (hK _ _ _ p)).1) (fun i σ' H' hi p=>(w H' (hK _ _ _ p)).2.1 i hi) ?_ hd
 intro i σ' H1 x H2 hi p y
 obtain⟨e,k⟩:=(w H1 (hK _ _ _ p)).2.2 i x H2 hi y
 exact hs i x σ' H1 H2 e p k
def ZsV(D:YF)(R:Hp→Prop)(y:V)(H:Hp):Prop:=∃ acc,H D=some (.lst acc)∧acc.length < YM∧R (upd H D (.lst (acc++[y])))
theorem lay{D:YF}{acc:List V}{y:V}{R:Hp→Prop}(h:H D=some (.lst acc))(l:acc.length < YM)(q:∀ H',Zb [D] H H'→H' D=some (.lst (acc++[y]))→R H') :
  ZsV D R y H:=⟨acc,h,l,q _ (Zb.put h True.intro) Y_⟩
theorem Zlb{J:It}{xs:List V}{g:TG}{tt:TT}{te:TE}{vs:List Nat}(w:Wk S J xs H)(Pv:YF→Nat→Hp→Prop)(hK:∀ D i H2,Pv D i H2→Zb S H H2)
  (h0:∀ D H2,H D=none→Zb [] H H2→H2 D=some (.lst [])→Pv D 0 H2)
  (hs:∀ D i H2 x H3,H D=none→xs[i]? = some x→Pv D i H2→Zb [] H2 H3→g x (wipe σ vs) H3 fun σ2 H4=>wipe σ2 vs=wipe σ vs∧tt σ2 H4 fun b H5 =>
   if b=true then te σ2 H5 fun y H6=>ZsV D (Pv D (i + 1)) y H6 else Pv D (i + 1) H5)
  (hd:∀ D H2,H D=none→Pv D xs.length H2→Q (.ref D) H2):Zk7 J g tt te vs σ H Q:=by
 refine ZhE xs.length Pv h0 (fun D H2 p=>(w H2 (hK _ _ _ p)).1) (fun D i H2 hi p=>(w H2 (hK _ _ _ p)).2.1 i hi) ?_ hd
 intro D i H2 x H3 hD hi p y
 obtain⟨e,k⟩:=(w H2 (hK _ _ _ p)).2.2 i x H3 hi y
 exact hs D i H2 x H3 hD e p k
theorem take_snoc{α : Type}{xs:List α}{i:Nat}{x : α}(e:xs[i]? = some x):xs.take (i + 1)=xs.take i++[x]:=by rw[List.take_add_one,e]; rfl
theorem Zdl{α : Type}{xs:List α}{i:Nat}{x : α}(e:xs[i]? = some x):i < xs.length:=(Yk.mp e).1
theorem Zff{J:It}{xs:List V}{tt:TT}{j:Nat}(f:V→Bool)(w:Wk [] J xs H)(hl:xs.length ≤ YM)(hj:j < σ.length)
  (ht:∀ (i:Nat) (x:V) (H2:Hp) (R:Bool→Hp→Prop),xs[i]? = some x→Zb [] H H2→(∀ H3,Zb [] H2 H3→R (f x) H3)→tt ((σ.set j none).set j (some x)) H2 R)
  (q:∀ D H2,H D=none→Zb [] H H2→H2 D=some (.lst (xs.filter f))→Q (.ref D) H2):Zk7 J (Y6 j) tt (YU j) [j] σ H Q:=by
 refine Zlb w (fun D i H2=>Zb [] H H2∧H2 D=some (.lst ((xs.take i).filter f))) (fun _ _ _ p=>p.1) (fun D H2 _ k h=>⟨k,by simpa using h⟩) ?_ (fun D H2 hD p=>q D H2 hD p.1 (by simpa using p.2))
 rintro D i H2 x H3 hD e ⟨k,h⟩ k3
 have hi:=Zdl e
 have h3:=k3.obj _ _ Ya h
 show wipe ((wipe σ [j]).set j (some x)) [j]=wipe σ [j]∧_
 refine⟨by simp[wipe],?_⟩
 refine ht i x H3 _ e (k.trans k3) fun H4 k4=>?_
 have h4:=k4.obj _ _ Ya h3
 have es:=take_snoc e
 have k9:=(k.trans k3).trans k4
 cases hf:f x
 ·exact iteF ⟨k9,by rw[h4,es,List.filter_append]; simp[hf]⟩
 ·refine iteT ⟨x,?_,?_⟩
  ·simp[wipe,hj]
  ·refine lay h4 ?_ fun H5 k5 h5=>⟨k9.step1 k5 hD,by rw[h5,es,List.filter_append]; simp[hf]⟩
   have:=List.length_filter_le f (xs.take i)
   have:(xs.take i).length ≤ i:=by simp; omega
   omega
theorem Zml{l b:YF}{xs ys:List V}(h:H l=some (.lst xs))(h2:H b=some (.lst ys))(z:xs.length + ys.length ≤ YM)(q:∀ H',Zb [l] H H'→H' l=some (.lst (xs++ys))→Q .non H'):rExtend (.ref l) [.ref b] H Q :=
 ⟨l,b,xs,ys,rfl,rfl,h,h2,z,q _ (Zb.put h True.intro) Y_⟩
theorem Zlc(ds:List PyData):PyData.eqv (.list ds) (.list [])=ds.isEmpty:=by
 cases ds <;> simp[PyData.eqv,PyData.eqvAll]
theorem Zld{a b:YF}{xs:List V}{ds:List PyData}(h:H a=some (.lst xs))(d:DpAll K H xs ds)(hb:H b=some (.lst []))(s:SeqAt.shaped (.list ds)=true)(q:Q (.bl xs.isEmpty) H):ZbB K (.ref a) (.ref b) H Q:=by
 refine ZrW (.lst (SqL.of h) d) (.lst (SqL.of hb) .nil) s (by decide) ?_
 rw[Zlc]
 cases d <;> exact q
theorem ZnZ{a b:YF}{xs:List V}{ds:List PyData}(h:H a=some (.lst xs))(d:DpAll K H xs ds)(hb:H b=some (.lst []))(s:SeqAt.shaped (.list ds)=true)(q:Q (.bl (!xs.isEmpty)) H):Zi8 K (.ref a) (.ref b) H Q:=by
 refine ZpB (.lst (SqL.of h) d) (.lst (SqL.of hb) .nil) s (by decide) ?_
 rw[Zlc]
 cases d <;> exact q
theorem ZeT(ds:List PyData):SeqAt.shaped (.list ds)=true↔(∀ d∈ds,d.canLay0=true∧d.depth ≤ 63):=by
 rw[← Zjf ds,Zd2,Zd2]
 simp[PyData.canLay0,PyData.depth]
end
section
variable {κ κ' α β : Type} [DecidableEq κ] [DecidableEq κ']
def valA(l:List (κ×α))(k : κ):Option α:=(l.find? fun kv=>decide (kv.1=k)).map (·.2)
def Zcw(l:List (κ×α))(k : κ)(v : α):List (κ×α):=if (l.any fun kv=>decide (kv.1=k))=true then l.map (fun kv=>if kv.1=k then(kv.1,v)else kv)else l++[(k,v)]
def ZpQ(l:List (κ×α))(k : κ):List (κ×α):=l.filter fun kv=>decide (kv.1≠k)
theorem Zck(p : κ×α)(l:List (κ×α))(k : κ):valA (p :: l) k=if p.1=k then some p.2 else valA l k:=by
 unfold valA
 rw[List.find?_cons]
 by_cases e:p.1=k
 ·rw[if_pos e,decide_eq_true e]; rfl
 ·rw[if_neg e,decide_eq_false e]
theorem Zmm(k : κ):valA ([]:List (κ×α)) k=none:=rfl
theorem ZcJ{l:List (κ×α)}{k : κ}:valA l k=none↔k∉l.map (·.1):=by
 induction l with
 | nil=>simp[Zmm]
 | cons p r ih =>
   rw[Zck]
   by_cases e:p.1=k
   ·rw[if_pos e]; simp[e]
   ·rw[if_neg e,ih,Yr,Yn,not_or]
    exact⟨fun z=>⟨fun y=>e y.symm,z⟩,fun z=>z.2⟩
theorem ZbS{l:List (κ×α)}{k : κ}{v : α}(h:valA l k=some v):(k,v)∈l:=by
 induction l with
 | nil=>cases h
 | cons p r ih =>
   rw[Zck]at h
   by_cases e:p.1=k
   ·rw[if_pos e]at h; cases h; subst e; simp
   ·rw[if_neg e]at h; exact Yf _ (ih h)
theorem Zc0{l:List (κ×α)}{k : κ}{v : α}(nd:(l.map (·.1)).Nodup)(h:(k,v)∈l):valA l k=some v:=by
 induction l with
 | nil=>cases h
 | cons p r ih =>
   rw[Yr,List.nodup_cons]at nd
   rw[Zck]
   rcases Yn.mp h with rfl | h
   ·rw[if_pos rfl]
   ·rw[if_neg,ih nd.2 h]
    rintro rfl
    exact nd.1 (Yv (f:=(·.1)) h)
theorem Zmn{l:List (κ×α)}{k : κ}{v : α}:(Zcw l k v).map (·.1)=if k∈l.map (·.1)then l.map (·.1)else l.map (·.1)++[k]:=by
 have h:(l.any fun kv=>decide (kv.1=k))=true↔k∈l.map (·.1):=by
  rw[List.any_eq_true,Yq]
  exact⟨fun⟨p,m,e⟩=>⟨p,m,of_decide_eq_true e⟩,fun⟨p,m,e⟩=>⟨p,m,decide_eq_true e⟩⟩
 unfold Zcw
 by_cases e:k∈l.map (·.1)
 ·rw[if_pos (h.mpr e),if_pos e,Yx]
  congr 1
  funext p
  show(if p.1=k then(p.1,v)else p).1=p.1
  split <;> rfl
 ·rw[if_neg (fun z=>e (h.mp z)),if_neg e]; simp
theorem Zle{l:List (κ×α)}{k : κ}{v : α}(h:(l.map (·.1)).Nodup):((Zcw l k v).map (·.1)).Nodup:=by
 rw[Zmn]
 split
 ·exact h
 ·rename_i z
  refine List.nodup_append.mpr ⟨h,by simp,?_⟩
  intro a ha b hb e
  simp at hb; subst e; subst hb; exact z ha
inductive Zc1 (f : κ→κ') (R:V→α→Prop):List (κ'×V)→List (κ×α)→Prop
 | nil:Zc1 f R [] []
 | cons {k : κ} {v:V} {x : α} {m:List (κ'×V)} {l:List (κ×α)}:R v x→Zc1 f R m l→Zc1 f R ((f k,v) :: m) ((k,x) :: l)
variable {f : κ→κ'} {R R':V→α→Prop} {m:List (κ'×V)} {l:List (κ×α)}
theorem Zc1.length(h:Zc1 f R m l):m.length=l.length:=by
 induction h with
 | nil=>rfl
 | cons _ _ ih=>simp[ih]
theorem Zc1.mono(h:Zc1 f R m l)(g:∀ v x,R v x→R' v x):Zc1 f R' m l:=by
 induction h with
 | nil=>exact .nil
 | cons r _ ih=>exact .cons (g _ _ r) ih
theorem Zc1.keys(h:Zc1 f R m l):m.map (·.1)=l.map fun p=>f p.1:=by
 induction h with
 | nil=>rfl
 | cons _ _ ih=>simp[ih]
theorem Zc1.val(inj:∀ a b,f a=f b→a=b)(h:Zc1 f R m l)(k : κ):(valV m (f k)=none∧valA l k=none)∨∃ v x,valV m (f k)=some v∧valA l k=some x∧R v x:=by
 induction h with
 | nil=>exact .inl ⟨rfl,rfl⟩
 | @cons k0 v x m l r _ ih =>
   rw[show valV ((f k0,v) :: m) (f k)=valA ((f k0,v) :: m) (f k)from rfl,Zck,Zck]
   by_cases e:k0=k
   ·rw[if_pos e,if_pos (congrArg f e)]
    exact .inr ⟨v,x,rfl,rfl,r⟩
   ·rw[if_neg e,if_neg fun z=>e (inj _ _ z)]
    exact ih
theorem Zc1.any(inj:∀ a b,f a=f b→a=b)(h:Zc1 f R m l)(k : κ):(m.any fun kv=>decide (kv.1=f k))=l.any fun kv=>decide (kv.1=k):=by
 induction h with
 | nil=>rfl
 | @cons k0 v x m l r _ ih =>
   rw[List.any_cons,List.any_cons,ih]
   congr 1
   exact decide_eq_decide.mpr ⟨fun z=>inj _ _ z,fun z=>congrArg f z⟩
theorem Zc1.append{m':List (κ'×V)}{l':List (κ×α)}(h:Zc1 f R m l)(h':Zc1 f R m' l'):Zc1 f R (m++m') (l++l'):=by
 induction h with
 | nil=>exact h'
 | cons r _ ih=>exact .cons r ih
theorem Zc1.put(inj:∀ a b,f a=f b→a=b)(h:Zc1 f R m l){k : κ}{v:V}{x : α}(r:R v x):Zc1 f R (putK m (f k) v) (Zcw l k x):=by
 unfold putK Zcw
 rw[h.any inj k]
 split
 ·rename_i hh
  clear hh
  induction h with
  | nil=>exact .nil
  | @cons k0 v0 x0 m l r0 _ ih =>
    rw[Yr,Yr]
    by_cases e:k0=k
    ·subst e
     rw[if_pos rfl,if_pos rfl]
     exact .cons r ih
    ·rw[if_neg e,if_neg fun z=>e (inj _ _ z)]
     exact .cons r0 ih
 ·exact h.append (.cons r .nil)
theorem Zc1.drop(inj:∀ a b,f a=f b→a=b)(h:Zc1 f R m l){k : κ}:Zc1 f R (dropK m (f k)) (ZpQ l k):=by
 unfold dropK ZpQ
 induction h with
 | nil=>exact .nil
 | @cons k0 v0 x0 m l r0 _ ih =>
   rw[List.filter_cons,List.filter_cons]
   by_cases e:k0=k
   ·rw[if_neg (by simpa using congrArg f e),if_neg (by simpa using e)]
    exact ih
   ·rw[if_pos (by simpa using fun z=>e (inj _ _ z)),if_pos (by simpa using e)]
    exact .cons r0 ih
theorem Zc1.get(h:Zc1 f R m l){i:Nat}{p : κ'×V}(e:m[i]? = some p):∃ k x,l[i]? = some (k,x)∧p.1=f k∧R p.2 x:=by
 induction h generalizing i with
 | nil=>simp at e
 | @cons k0 v0 x0 m l r0 _ ih =>
   cases i with
   | zero=>simp at e; subst e; exact⟨k0,x0,rfl,rfl,r0⟩
   | succ i=>simp at e; obtain⟨k,x,h1,h2⟩:=ih e; exact⟨k,x,by simpa using h1,h2⟩
end
abbrev kS:Str→Key:=Sum.inr
theorem Zdm:∀ a b:Str,kS a=kS b→a=b:=fun _ _ h=>Sum.inr.inj h
abbrev kT(k:Str×Str):List Key:=[.inr k.1,.inr k.2]
def rIxD:R2:=fun x y H Q=>∃ a v,x = .ref a∧DGet H a y (some v)∧Q v H
def rInD:R2:=fun y x H Q=>∃ a o,x = .ref a∧DGet H a y o∧Q (.bl o.isSome) H
def rNotInD:R2:=fun y x H Q=>∃ a o,x = .ref a∧DGet H a y o∧Q (.bl (!o.isSome)) H
def Zn0:Hp→VK→Prop:=fun H Q=>∀ p H',H p=none→Zb [] H H'→H' p=some (.dK [])→Q (.ref p) H'
def Zjh:TE:=fun _ H Q=>Zn0 H Q
section
variable {X:Cx} {o i e value:Expr} {pos pos' tpos:Pos} {td ty tv:TE}
theorem ZfU(hu:X.A.units + 64 < cLine)(ho:PE X o td)(hi:PE X i ty)(hs:NoSl i):PE X (.Subscript o i pos) (tOp rIxD td ty):=pe_dget (by omega) ho hi hs
theorem Zlf(hu:X.A.units + 64 < cLine)(hi:PE X i ty)(ho:PE X o td):PC X .In i o (tOp rInD ty td):=pc_din (by omega) hi ho
theorem Zmo(hu:X.A.units + 64 < cLine)(hi:PE X i ty)(ho:PE X o td):PC X .NotIn i o (tOp rNotInD ty td):=pc_dnotin (by omega) hi ho
theorem Zn1:PE X (.Dict [] [] pos) Zjh:=⟨fun pins s σ H Q I h=>(pe_dnewK (X:=X) (pos:=pos)).run pins s σ H Q I fun p hp=>h p _ hp (Zb.new hp) Y_⟩
theorem Zfg(hu:X.A.units + 64 < cLine):PSet X rSetD:=set_dict (by omega)
end
section
variable {K:YC} {σ:L2.St} {H:Hp} {Q:VK} {D:Ends} {a:YF} {m:List (Key×V)}
theorem Znm:Zjh σ H Q=Zn0 H Q:=rfl
theorem ZpR(q:∀ p H',H p=none→Zb [] H H'→H' p=some (.dK [])→Q (.ref p) H'):Zn0 H Q:=q
theorem Zn2{k:Str}{v:V}(h:H a=some (.dK m))(e:valV m (.inr k)=some v)(q:Q v H):rIxD (.ref a) (.str k) H Q:=⟨a,v,rfl,by have:=DGet.k (k:=.inr k) h; rw[e]at this; exact this,q⟩
theorem ZpS{k:Str}(h:H a=some (.dK m))(q:Q (.bl (valV m (.inr k)).isSome) H):rInD (.str k) (.ref a) H Q:=⟨a,_,rfl,DGet.k (k:=.inr k) h,q⟩
theorem ZpT{k:Str}(h:H a=some (.dK m))(q:Q (.bl (!(valV m (.inr k)).isSome)) H):rNotInD (.str k) (.ref a) H Q:=⟨a,_,rfl,DGet.k (k:=.inr k) h,q⟩
theorem Zj8{k:Str}{v:V}{R:Hp→Prop}(h:H a=some (.dK m))(l:m.length < YM)(q:∀ H',Zb [a] H H'→H' a=some (.dK (putK m (.inr k) v))→R H'):rSetD (.ref a) (.str k) v H R :=
 ⟨a,_,rfl,DPut.k (k:=.inr k) h l,q _ (Zb.put h True.intro) Y_⟩
end
end M
namespace M
open PySem PySem.Spec PyProof.Rows L2 SlX
section
variable {X:Cx} {CX:CXT} {C g:YF} {n:Nat} {sp:Sp} {E:XK}
def Zji(C:YF)(sp:Sp)(E:XK):R2:=fun x y H Q=>∃ a dx vs,y = .ref a∧Slt H a C dx vs∧sp [.ref a,x] H (fun z H'=>∃ b,z = .bl b∧Q (.bl (!b)) H') E
def ZoP(C:YF)(sp:Sp)(E:XK):R2:=fun x y H Q=>∃ a dx vs,x = .ref a∧Slt H a C dx vs∧sp [.ref a,y] H Q E
theorem Zlg(hs:PySem.W.findIn X.K (.ref C) "__contains__" = some (some (.ref g))) (hf:PySem.W.isFn X.K (.ref g)=true) (F:FnR X.prog X.w X.K X.mg X.base CX n g sp) (hr:Room n X.A) (hx:Passes CX X E) :
  OpR X (compareOp .NotIn) (Zji C sp E):=by
 intro pins s σ H x y v u Q I rx ry h
 obtain⟨a,dx,vs,rfl,ha,q⟩:=h
 cases (show u=Value.ref a from ry)
 obtain⟨sl,od,_,J,_⟩:=slt_inst I ha
 obtain⟨m,hF⟩:=I.fr
 refine PySem.W.notIn_K hF I.ok.mod.kin J hs hf ?_
 refine wpAny_mono (wpAny_call (run_fnR (us:=[.ref a,v]) (vs:=[.ref a,x]) F hr hx I (.cons rfl (.cons rx .nil)) q)) (fun w s' z=>?_) fun _ _ x=>x
 obtain⟨z',H',I',rz,b,rfl,qz⟩:=z
 cases (show w=Value.bool b from rz)
 exact wpAny_truthy_bool ⟨.bl (!b),H',I',rfl,qz⟩
theorem Zn3{pins:List (YF×Obj)}{σ:L2.St}{H:Hp}{s:YJ}{Q:VK}{us:List YI}{vs:List V}(F:FnR X.prog X.w X.K X.mg X.base CX n g sp)(hr:Room (n + 1) X.A)(hx:Passes CX X E)(I:Inv X pins σ H s)(r:Vals vs us)(h:sp vs H Q E) :
  wpAny (model X.prog X.w) X.A.in1 (call (.ref g) us) (EP X pins σ Q) X.xe s:=by
 refine wpAny_call (codeAny_mono (F X.A.in1 X.stack s H us vs Q E hr.in1 I.env0.in1 r h) fun r s' hq=>?_)
 cases r with
 | error e=>exact hx pins σ H s e s' I hq
 | ok fl =>
   cases fl with
   | ret u=>exact I.after hq
   | next=>exact False.elim hq
   | brk=>exact False.elim hq
   | cont=>exact False.elim hq
theorem ZpU{a b:Expr}{ta tb:TE}{pos:Pos}(hs:PySem.W.findIn X.K (.ref C) "__getitem__" = some (some (.ref g))) (hfn:PySem.W.fnIn X.K g=true) (hf:PySem.W.isFn X.K (.ref g)=true) (F:FnR X.prog X.w X.K X.mg X.base CX n g sp) (hr:Room (n + 1) X.A) (hx:Passes CX X E)
  (ha:PE X a ta) (hb:PE X b tb) (hsl:∀ v u,subscripted b true v u=runValue (.builtin "lifetime.subscript" ⟨[v,u],[]⟩):=by intro v u; with_unfolding_all rfl):PE X (.Subscript a b pos) (tOp (ZoP C sp E) ta tb):=by
 refine⟨fun pins s σ H Q I h=>?_⟩
 refine Subscript_ (binT ha hb I h fun v u s2 x y H2 I2 rx ry q=>?_)
 obtain⟨o,dx,vs,rfl,hsl2,q⟩:=q
 cases (show v=Value.ref o from rx)
 obtain⟨sl,od,_,J,_⟩:=slt_inst I2 hsl2
 obtain⟨m,hF⟩:=I2.fr
 exact PySem.W.sub_K hF I2.ok.mod.kin J hs hfn hf (Zn3 (vs:=[.ref o,y]) F hr hx I2 (.cons rfl (.cons ry .nil)) q) (hsl _ _)
end
end M
namespace M
open PySem PySem.Spec PyProof.Rows L2
def leS(a b:Str):Bool:=!ltCps b.cps.toList a.cps.toList
theorem ZhH(a b:Str):leS a b=true↔a.cps.toList ≤ b.cps.toList:=by
 unfold leS
 rw[ltCps_eq]
 simp
theorem Zit(a b c:Str)(h1:leS a b=true)(h2:leS b c=true):leS a c=true:=by
 rw[ZhH]at *
 exact List.le_trans h1 h2
theorem Zlh(a b:Str):(leS a b || leS b a)=true:=by
 rw[Bool.or_eq_true,ZhH,ZhH]
 exact List.le_total a.cps.toList b.cps.toList
theorem Ziu{a b:Str}(h1:leS a b=true)(h2:leS b a=true):a=b:=by
 rw[ZhH]at *
 have e:=List.le_antisymm h1 h2
 obtain⟨x⟩:=a
 obtain⟨y⟩:=b
 have:x=y:=Array.toList_inj.mp e
 rw[this]
def Zfh(l:List Str):List Str:=l.mergeSort leS
theorem Zd3(l:List Str):(Zfh l).Perm l:=List.mergeSort_perm l leS
theorem Ziv(l:List Str):(Zfh l).Pairwise fun a b=>leS a b=true:=List.pairwise_mergeSort Zit Zlh l
theorem Zgs:∀ {l:List Str},sortedS l=true→l.Pairwise fun a b=>leS a b=true
 | [],_=>.nil
 | [x],_=>by simp
 | x :: y :: r,h=>by
   have h':(!ltCps y.cps.toList x.cps.toList && risingS y r)=true:=h
   rw[Bool.and_eq_true]at h'
   have ih:=Zgs (l:=y :: r) h'.2
   refine List.pairwise_cons.mpr ⟨fun z hz=>?_,ih⟩
   rcases Yn.mp hz with rfl | hz
   ·exact h'.1
   ·exact Zit _ _ _ h'.1 ((List.pairwise_cons.mp ih).1 z hz)
theorem Zgt:∀ {l m:List Str},l.Perm m→(l.Pairwise fun a b=>leS a b=true)→(m.Pairwise fun a b=>leS a b=true)→l=m
 | [],m,p,_,_=>(List.nil_perm.mp p).symm
 | x :: l,[],p,_,_=>absurd p.length_eq (by simp)
 | x :: l,y :: m,p,h1,h2=>by
   have hx:=List.pairwise_cons.mp h1
   have hy:=List.pairwise_cons.mp h2
   have e:x=y:=by
    have m1:x∈y :: m:=p.mem_iff.mp Yg
    have m2:y∈x :: l:=p.mem_iff.mpr Yg
    rcases Yn.mp m1 with e | m1
    ·exact e
    ·rcases Yn.mp m2 with e | m2
     ·exact e.symm
     ·exact Ziu (hx.1 y m2) (hy.1 x m1)
   subst e
   rw[Zgt (List.perm_cons x |>.mp p) hx.2 hy.2]
theorem Zmp{ys ks:List Str}(p:ys.Perm ks)(s:sortedS ys=true):ys=Zfh ks:=Zgt (p.trans (Zd3 ks).symm) (Zgs s) (Ziv ks)
theorem ZcK{l:List Str}{x:Str}:x∈Zfh l↔x∈l:=(Zd3 l).mem_iff
theorem Ziw(l:List Str):(Zfh l).length=l.length:=(Zd3 l).length_eq
theorem ZeU{l:List Str}(h:l.Nodup):(Zfh l).Nodup:=(Zd3 l).nodup_iff.mpr h
end M
namespace M
open PySem PySem.Spec PyProof.Rows L2 HotX L2H
section
variable {prog:YG} {w:YH} {A:Around} {E:YI→YJ→Prop} {s:YJ}
end
section
variable {P:YG} {w:YH} {K:YC} {tg:Expr}
end
section
variable {X:Cx} {tg:Expr}
end
section
variable {X:Cx} {pins:List (YF×Obj)} {σ:L2.St} {H:Hp} {s:YJ}
end
section
variable {X:Cx}
end
end M
namespace M
open PySem PySem.Spec PySem.Calls PySem.W PyProof.Rows PyProof.V L2 HotX L2H
def Clm(A:Around)(x1:YF)(h:Heap):Prop:=A.handled=none∨HotAt A x1 h
theorem Clm.keep{A:Around}{x1:YF}{h h':Heap}(c:Clm A x1 h)(k:∀ o,h.get? x1=some o→h'.get? x1=some o):Clm A x1 h':=by
 rcases c with c | ⟨hh,o,vs,e,r⟩
 ·exact .inl c
 ·exact .inr ⟨hh,o,vs,k o e,r⟩
section
variable {prog:YG} {w:YH} {A:Around} {E:YI→YJ→Prop} {s:YJ} {es:Array DictEntry} {ep:Nat} {o:Obj}
end
structure Sto{α : Type}(lt : α→α→Bool):Prop where
 irr:∀ a,lt a a=false
 tr:∀ a b c,lt a b=true→lt b c=true→lt a c=true
 tot:∀ a b,lt a b=false→lt b a=false→a=b
section
variable {α : Type} [DecidableEq α] {lt : α→α→Bool}
def leO(lt : α→α→Bool)(a b : α):Bool:=!lt b a
theorem Sto.le_trans(o:Sto lt)(a b c : α)(h1:leO lt a b=true)(h2:leO lt b c=true):leO lt a c=true:=by
 unfold leO at *
 simp only[Bool.not_eq_true']at *
 cases e:lt c a with
 | false=>rfl
 | true =>
   cases e2:lt a b with
   | true=>rw[o.tr _ _ _ e e2]at h2; cases h2
   | false=>rw[o.tot _ _ h1 e2]at h2; rw[e]at h2; cases h2
theorem Sto.le_total(o:Sto lt)(a b : α):(leO lt a b || leO lt b a)=true:=by
 unfold leO
 cases e:lt b a with
 | false=>rfl
 | true =>
   cases e2:lt a b with
   | false=>rfl
   | true=>have:=o.tr _ _ _ e e2; rw[o.irr]at this; cases this
def ZpV(lt : α→α→Bool)(l:List α):List α:=l.mergeSort (leO lt)
theorem Sto.sorted(o:Sto lt)(l:List α):(ZpV lt l).Pairwise fun a b=>leO lt a b=true:=List.pairwise_mergeSort o.le_trans o.le_total l
end
def ltS(a b:Str):Bool:=decide (a.cps.toList < b.cps.toList)
def ltP(a b:Str×Str):Bool:=if a.1=b.1 then ltS a.2 b.2 else ltS a.1 b.1
abbrev Zli(l:List (Str×Str)):List (Str×Str):=ZpV ltP l
def itemAt(h:Heap)(v:YI)(i:Nat):Str:=match v with
 | .ref a=>(match h.get? a with
   | some o=>(match o.data with
     | .seq xs _=>(match xs[i]? with
       | some (.str x _)=>x
       | _=>⟨#[]⟩)
     | _=>⟨#[]⟩)
   | none=>⟨#[]⟩)
 | _=>⟨#[]⟩
def ZsW(h:Heap)(v:YI):Str×Str:=(itemAt h v 0,itemAt h v 1)
def Pr2(h:Heap)(v:YI)(k:Str×Str):Prop:=∃ (a:YF) (t u:Tok),v = .ref a∧IsTup h a #[.str k.1 t,.str k.2 u]
theorem Pr2.key{h:Heap}{v:YI}{k:Str×Str}(x:Pr2 h v k):ZsW h v=k:=by
 obtain⟨a,t,u,rfl,o,ho,hc,n,hd⟩:=x
 simp only[ZsW,itemAt,ho,hd]
 rfl
theorem Pr2.keep{h h':Heap}{v:YI}{k:Str×Str}(x:Pr2 h v k)(e:∀ b o,h.get? b=some o→o.cls = .type "tuple" → h'.get? b=some o):Pr2 h' v k:=by
 obtain⟨a,t,u,rfl,o,ho,hc,r⟩:=x
 exact⟨a,t,u,rfl,o,e _ _ ho hc,hc,r⟩
section
variable {prog:YG} {w:YH} {A:Around} {E:YI→YJ→Prop} {s:YJ}
end
def Cm(X:Cx):Prop:=X.calm=true∨HotC X
section
variable {X:Cx} {pins:List (YF×Obj)} {σ:L2.St} {H:Hp} {s:YJ}
theorem Cm.at(c:Cm X)(I:Inv X pins σ H s){d:YF}(hd:d < s.heap.objs.size):∃ x1,x1 < s.heap.objs.size∧Clm X.A x1 s.heap:=by
 rcases c with c | c
 ·exact⟨d,hd,.inl (I.ok.hd c)⟩
 ·obtain⟨x1,hot⟩:=c.at I
  obtain⟨hh,o,vs,e,r⟩:=hot
  exact⟨x1,Heap.lt_size e,.inr ⟨hh,o,vs,e,r⟩⟩
end
def PrA(H:Hp)(k:Str×Str)(b:YF):Prop:=H b=some (.tup [.str k.1,.str k.2])
def rSortT:List V→Hp→VK→Prop:=fun vs H Q=>∃ (a:YF) (kvs:List (List L2.Key×V)) (ks:List (Str×Str)),vs=[.ref a]∧Rd H a (.dT kvs)∧kvs.map (·.1)=ks.map kT∧ks.length < 64 ∧
 ∀ l H' bs,H l=none→Zb [] H H'→H' l=some (.lst (bs.map V.ref))→Paired (PrA H') (Zli ks) bs→Q (.ref l) H'
end M
namespace M
open PySem PySem.Spec PyProof.Rows L2
section
variable {prog:YG} {w:YH} {A:Around} {E:YI→YJ→Prop} {s:YJ}
end
section
variable {X:Cx} {pins:List (YF×Obj)} {σ:L2.St} {H:Hp} {s:YJ} {a b:YF} {kvs:List (List Key×V)} {k:List Key} {A:Around} {E:YI→YJ→Prop}
end
def Zr0(x y:V)(H:Hp)(R:Hp→Prop):Prop:=∃ a b kvs k v,x = .ref a∧y = .ref b∧H a=some (.dT kvs)∧H b=some (.tup (k.map kV))∧valV kvs k=some v∧R (upd H a (.dT (dropK kvs k)))
def ZpW(to ti:TE):TS:=fun D σ H=>to σ H fun x H1=>ti σ H1 fun y H2=>Zr0 x y H2 (D.nx σ)
section
variable {X:Cx} {o i:Expr} {to ti:TE} {tpos pos:Pos}
end
end M
namespace M
open PySem PySem.Spec PyProof.Rows L2 L2H
structure ZoQ(P:YG)(w:YH)(K:YC)(mg:Str→Option YI)(base:Heap)(k:Nat)(C:YF)(m:Str)(sp:Sp):Prop where
 ex:∃ (f:YF) (fd:YE) (ps:List Str),Cls K C∧Meth K C m f∧Xn P w K mg base (L2N.CX P w) k f fd ps sp∧Binds K fd ps []
structure ZtJ(P:YG)(w:YH)(K:YC)(mg:Str→Option YI)(base:Heap)(k:Nat)(C:YF)(m:Str)(sp:Sp):Prop where
 ex:∃ (f:YF) (fd:YE) (ps:List Str),Cls K C∧Meth K C m f∧FnH P w K mg base CX0 k f fd ps sp∧Binds K fd ps []
structure ZtK(P:YG)(w:YH)(K:YC)(mg:Str→Option YI)(base:Heap)(k:Nat)(x:Str)(C:YF)(sp:Sp):Prop where
 ex:∃ (f:YF) (fd:YE) (ps:List Str),Mk K C f∧FnH P w K mg base CX0 k f fd ps sp∧mg x=some (.ref C)∧Binds K fd ps []
section
variable {X:Cx} {k j:Nat} {C f:YF} {fd:YE} {ps:List Str} {x m:Str} {sp:Sp} {p pos apos:Pos} {e o:Expr} {es:List Expr} {ta:TE} {t:TA} {W:WX} {CX:CXT} {E:L2.St→XK}
end
section
variable {P:YG} {w:YH} {K:YC} {mg:Str→Option YI} {base:Heap} {x qual:Str} {params:Arguments} {body:List YK} {scope:Scope} {f:YF} {fd:YE}
theorem ZpX{N:List Str}{cdv:YI}{A:Around}{outer:List Env}{s:YJ}{H:Hp}{E:XK}:L2N.Takes (cxOf (L2N.CX P w) P w K mg base N qual scope f cdv A outer s H E) (fun cls d _ H=>E cls d H) :=
 L2N.takes_of rfl rfl rfl (E₁:=fun e' s''=>L2N.CX P w outer H s E e' s'') rfl
theorem ZsX{CX:CXT}{N:List Str}{cdv:YI}{A:Around}{outer:List Env}{s:YJ}{H:Hp}{E:XK}:Zmi (cxOf CX P w K mg base N qual scope f cdv A outer s H E):=by
 refine⟨rfl,rfl,rfl,fun hd=>?_⟩
 exact L2H.passesAt_of rfl hd
end
theorem ZpY{X:Cx}{a T C:YF}{oe oT:Obj}{cls:YI}{d:Option YF}{pins:List (YF×Obj)}{xe:YI→YJ→Prop}{e:Expr}{te:TE}{pos:Pos}{n:Str}(T':XfC X.K C)(hno:PySem.W.findIn X.K (.ref C) n=some none)
  (F:ZpL X a oe T oT cls d pins) (he:PE (suY X a oe T oT pins xe) e te) (hb:attributeBase e n X.env (eval e X.env)=eval e X.env:=by rfl) :
  PE (suY X a oe T oT pins xe) (.Attribute e n pos) (tXf a cls d C n te):=by
 refine⟨fun pn' s σ H Q I h=>?_⟩
 refine attr_of hb (thn (he.run pn' s σ H _ I h) fun u s1 hh=>?_)
 obtain⟨x,H1,I1,rx,ex,ec,dd,fs,v,ed,ea,l,q⟩:=hh
 subst ex
 obtain rfl:u=Value.ref a:=rx
 subst ec
 subst ed
 obtain⟨ha,_⟩:=I1.pin (a,oe) (Yo _ Yg)
 obtain⟨vs,tt,hd,_⟩:=F.f
 have hx:ObjOk X.prog X.w H1 s1.heap dd (.xd fs):=I1.hok dd _ ea
 obtain⟨mA,hns,hr⟩:=hx
 obtain⟨od,ho,hl⟩:=lookIn_ns hns
 obtain⟨u,hu,ru⟩:=RelO.some_of (v:=v) (o:=mA n) (by rw[← l]; exact hr n)
 have J:PySem.W.InstAt s1.heap a oe C (some od):=⟨ha,F.z.1,by unfold PySem.W.notCls; rw[hd] <;> rfl,by rw[F.z.2.1]; exact ho⟩
 exact HandSPX.exc_get I1.kIn J T'.ga T'.gg T'.exC (PySem.W.findObj_own T'.hdC hno rfl (by rw[hl,hu])) (handed_of ru) ⟨v,H1,I1.tok _,ru,q⟩
end M
namespace M
open PySem PySem.Spec PyProof.Rows L2 L2H SlX
structure XMk(P:YG)(w:YH)(K:YC)(mg:Str→Option YI)(base:Heap)(k:Nat)(x:Str)(C:YF)(fs:List Str):Prop where mk0 ::
 ex:∃ (fI:YF) (fd:YE) (B newId i:String) (bmB:List YI),ZpG K C fI B newId i bmB fs∧Xn P w K mg base CX0 k fI fd ("self" :: fs) (Zir C fs) ∧
  (∀ (s:YJ) (u:YI) (ws:List YI),ws.length=fs.length→BindsTo s fd ⟨[u],fs.zip ws⟩ ((("self" : Str) :: fs).zip (u :: ws)))∧mg x=some (.ref C)
structure ZoR(P:YG)(w:YH)(K:YC)(mg:Str→Option YI)(base:Heap)(k:Nat)(C:YF)(spc spg:Sp):Prop where
 con:∃ g,PySem.W.findIn K (.ref C) "__contains__" = some (some (.ref g))∧PySem.W.isFn K (.ref g)=true∧FnR P w K mg base CX0 k g spc
 itm:∃ g,PySem.W.findIn K (.ref C) "__getitem__" = some (some (.ref g))∧PySem.W.fnIn K g=true∧PySem.W.isFn K (.ref g)=true∧FnR P w K mg base CX0 k g spg
structure MSl(P:YG)(w:YH)(K:YC)(mg:Str→Option YI)(base:Heap)(k:Nat)(C:YF)(m:Str)(sp:Sp):Prop where
 ex:∃ g,SCls K C∧Meth K C m g∧FnR P w K mg base CX0 k g sp
structure PSl(P:YG)(w:YH)(K:YC)(mg:Str→Option YI)(base:Heap)(k:Nat)(C:YF)(f:Str)(sp:Sp):Prop where
 ex:∃ p g,SCls K C∧PySem.W.findIn K (.ref C) f=some (some (.ref p))∧PySem.W.specialIn K (.ref p) "__get__" = some (some (.builtin "property.__get__"))∧PySem.W.takesIn K (.ref p)=some true∧(∃ rest,PySem.W.recIn K p "property" = some (.ref g :: rest))∧FnR P w K mg base CX0 k g sp
structure ZtL(P:YG)(w:YH)(K:YC)(mg:Str→Option YI)(base:Heap)(k:Nat)(x:Str)(sp:Sp)(n:Nat)(ks:List Str)(gV:List V→List V→List V):Prop where
 ex:∃ (f:YF) (fd:YE) (ps:List Str) (g:List YI→List YI→List YI),Xn P w K mg base CX0 k f fd ps sp∧mg x=some (.ref f)∧PySem.W.keepIn K (.ref f)=true∧KBn K fd ps n ks g gV
section
variable {X:Cx} {k j n:Nat} {C:YF} {x m f:Str} {sp spc spg:Sp} {fs ks:List Str} {kws:List Keyword} {tk t:TA} {p pos apos:Pos} {e o:Expr} {es:List Expr} {ta tb:TE} {gV:List V→List V→List V}
theorem XMk.mk(c:XMk X.prog X.w X.K X.mg X.base k x C fs)(hr:Room j X.A)(hk:k + 1 ≤ j)(hg:Gl X x)(hkw:PK X kws tk)
  (hall:(backToKw pos (keywordEach kws X.env)).all (·.1.isSome)=true:=by rfl) (hks:(backToKw pos (keywordEach kws X.env)).filterMap (·.1)=fs:=by rfl) (hdb:(x == ("__debug__" : Str))=false:=by decide)
  (hpl:((backTo pos (starEach [] X.env)).any (·.1) || (backToKw pos (keywordEach kws X.env)).any (·.1.isNone))=false:=by rfl) :
  L2N.PMk X (.Call (.Name x p) [] kws pos) (ZrY C fs tk):=by
 obtain⟨fI,fd,B,newId,i,bmB,T,F,hb,hm⟩:=c.ex
 exact ZpH T F (hr.mono hk) hb C8.pass0 hg hm hkw hall hks hdb hpl
theorem ZoR.nin(c:ZoR X.prog X.w X.K X.mg X.base k C spc spg)(hr:Room j X.A)(hk:k + 1 ≤ j):OpR X (compareOp .NotIn) (Zji C spc E0):=by
 obtain⟨g,h1,h2,F⟩:=c.con
 exact Zlg h1 h2 F (hr.mono (by omega)) C8.pass0
theorem ZoR.ix{a b:Expr}(c:ZoR X.prog X.w X.K X.mg X.base k C spc spg)(hr:Room j X.A)(hk:k + 1 ≤ j)(ha:PE X a ta)(hb:PE X b tb)(hsl:∀ v u,subscripted b true v u=runValue (.builtin "lifetime.subscript" ⟨[v,u],[]⟩):=by intro v u; with_unfolding_all rfl):PE X (.Subscript a b pos) (tOp (ZoP C spg E0) ta tb):=by
 obtain⟨g,h1,h2,h3,F⟩:=c.itm
 exact ZpU h1 h2 h3 F (hr.mono hk) C8.pass0 ha hb hsl
theorem ZpZ{pl:Sem Bool}(c:MSl X.prog X.w X.K X.mg X.base k C m sp)(hr:Room j X.A)(hk:k ≤ j)(he:PE X o ta)
  (ht:eval (.Call (.Attribute o m apos) [] [] pos) X.env=(do
   let ov ← eval o X.env
   standAt apos.atName
   let (f,first) ← holding [ov] (getMethod ov m pl)
   callWith pos f first (backTo pos (starEach [] X.env)) (backToKw pos (keywordEach [] X.env))):=by rfl) :
  PE X (.Call (.Attribute o m apos) [] [] pos) (tMethSl C sp E0 ta Y1):=by
 obtain⟨g,h1,h2,F⟩:=c.ex
 exact pe_methSl0 (pl:=pl) he h1 h2 F (hr.mono hk) C8.pass0 ht
end
section
variable {P:YG} {w:YH} {K:YC} {mg:Str→Option YI} {base:Heap} {j k:Nat} {C f:YF} {fd:YE} {ps:List Str} {m:Str} {sp sp':Sp} {CX:CXT}
theorem ZoQ.mono(c:ZoQ P w K mg base j C m sp)(h:j ≤ k):ZoQ P w K mg base k C m sp:=by
 obtain⟨f,fd,ps,h1,h2,F,b⟩:=c.ex
 exact⟨f,fd,ps,h1,h2,F.mono h,b⟩
theorem ZoQ.imp(c:ZoQ P w K mg base k C m sp)(h:∀ vs H Q E,sp' vs H Q E→sp vs H Q E):ZoQ P w K mg base k C m sp':=by
 obtain⟨f,fd,ps,h1,h2,F,b⟩:=c.ex
 exact⟨f,fd,ps,h1,h2,F.imp h,b⟩
theorem Zlj(F:Xn P w K mg base CX k f fd ps sp)(hb:Binds K fd ps []):FnR P w K mg base CX k f sp:=(F.raw hb .nil).imp fun vs H Q E h=>by rw[List.append_nil]; exact h
theorem takes0{X:Cx}:L2N.Takes X (fun _ _ _ _=>False):=by
 rintro u s' ⟨a,B,sI,pins,σ,H,cls,d,e,I,nb,up,sky,na,os,ag,w⟩
 exact w.elim
end
end M
namespace M
open PySem PySem.Spec PyProof.Rows L2 HotX L2H
section
variable {prog:YG} {w:YH} {A:Around} {E:YI→YJ→Prop} {s:YJ}
end
end M
namespace M
open PySem PySem.Spec PyProof.Rows L2 L2H SlX
def top(i:Nat):YK:=PySem.Challenge.pw_modlink_k35_renamings_refused.main.body.getD i (.Pass ⟨0,0,0,0⟩)
abbrev Zag:YK:=Xh (top 4) 0
abbrev ZaA:YK:=top 15
abbrev ZbT:YK:=top 16
abbrev Zbj:YK:=top 17
abbrev ZbE:YK:=top 18
abbrev ZW:YK:=top 19
abbrev Z8:YK:=top 20
abbrev ZbF:YK:=top 21
abbrev Zu:YK:=top 22
abbrev Zp:YK:=top 23
abbrev Zak:YK:=top 24
abbrev ZD:YK:=Xh (top 26) 1
abbrev Zv:YK:=Xh (top 26) 2
abbrev Zt:YK:=Xh (top 26) 3
abbrev ZE:YK:=Xh (top 26) 8
abbrev Ze:YK:=Xh (top 26) 12
abbrev ZJ:YK:=Xh (top 28) 0
abbrev ZX:YK:=Xh (top 28) 1
abbrev ZA:YK:=Xh (top 28) 2
abbrev ZF:YK:=Xh (top 28) 3
abbrev Z6:YK:=Xh (top 28) 4
abbrev Zcl:YK:=top 29
abbrev ZaB:YK:=top 30
abbrev ZaC:YK:=top 31
abbrev Zba:YK:=top 32
abbrev Zcm:YK:=top 34
abbrev ZbG:YK:=top 35
abbrev Zbn:YK:=top 36
abbrev Zbk:YK:=top 37
abbrev Zal:YK:=top 38
abbrev ZbH:YK:=top 39
abbrev ZbI:YK:=top 40
abbrev Z9:YK:=top 41
abbrev Zbo:YK:=top 42
abbrev ZY:YK:=top 43
abbrev Zam:YK:=top 44
abbrev ZZ:YK:=top 45
abbrev Zbl:YK:=top 46
abbrev ZaD:YK:=top 47
abbrev ZS:YK:=top 48
abbrev Z5:YK:=top 49
abbrev ZaE:YK:=top 50
abbrev Zix:YK:=top 51
end M
namespace M
open PySem PySem.Spec PyProof.Rows L2
theorem Zar{P:YG}{w:YH}{K:YC}{mg:Str→Option YI}{base:Heap}{k:Nat}{x:Str}{sp:Sp}{f:YF}{fd:YE}{ps:List Str}(F:Xn P w K mg base CX0 k f fd ps sp)(hm:mg x=some (.ref f))(kp:PySem.W.keepIn K (.ref f)=true)(b:Binds K fd ps []):C8.Cal P w K mg base k x sp [] :=
 ⟨⟨f,fd,ps,[],F,hm,kp,b,.nil⟩⟩
theorem Zp0{P:YG}{w:YH}{K:YC}{mg:Str→Option YI}{base:Heap}{k k':Nat}{x:Str}{sp:Sp}{f:YF}{fd:YE}{ps:List Str}(F:Xn P w K mg base CX0 k f fd ps sp)(e:k=k')(hm:mg x=some (.ref f))(kp:PySem.W.keepIn K (.ref f)=true)(b:Binds K fd ps []):C8.Cal P w K mg base k' x sp []:=by
 subst e; exact Zar F hm kp b
theorem Zc2{P:YG}{w:YH}{K:YC}{mg:Str→Option YI}{base:Heap}{k:Nat}{sp:Sp}{f:YF}{fd:YE}{ps:List Str}(no:∀ vs H Q E,¬ sp vs H Q E):Xn P w K mg base CX0 k f fd ps sp :=
 ⟨fun vs H Q E h=>absurd h (no vs H Q E),fun A outer s H args us vs Q E _ _ _ _ h=>absurd h (no vs H Q E)⟩
def Zr1(o:Obj):List YF:=match o.data with
 | .dict es _=>es.toList.flatMap fun e=>He.refV e.val
 | .func fd=>He.refV fd.code++(He.refV fd.defaults++(He.refV fd.kwdefaults++fd.closure.map (·.2)))
 | .cls cd=>[cd.ns]
 | .fields vs=>vs.toList.flatMap He.refV
 | .seq its _=>its.toList.flatMap He.refV
 | _=>[]
def Zr2(g:YF→Option Obj)(as:List YF):List YF:=as.flatMap fun a=>match g a with
 | some o=>Zr1 o
 | none=>[]
def ZsY(g:YF→Option Obj):Nat→List YF→List YF
 | 0,as=>as
 | n + 1,as=>as++ZsY g n (Zr2 g as)
def frB(g:YF→Option Obj)(n:Nat)(xs:List YF):YC:=He.frG g (ZsY g n (mainGlobals :: xs))
structure Ztr(fa:List He.Fa)(fn:List He.DefD)(ts:List He.Tab)(ex:YC→Bool)(w:YH)(K:YC):Prop where
 t:He.SaysT fa fn ts w K
 more:ex K=true
theorem Zp1{h:Heap}{n:Nat}{xs:List YF}:(frB h.get? n xs).In h:=He.frG_in
end M
namespace M
open PySem PySem.Spec PyProof.Rows L2 L2H SlX
structure SuD where
 x:Str
 st:YK
 qual:Str
 B:String
 newId:String
 i:String
 bm:List YI
 fs:List Str
abbrev SuV:Type:=Option (Str×Str×Arguments×FuncBody×Scope×YF×List Str×YF)
def SuD.C(K:YC)(d:SuD):YF:=He.ga K d.x
def SuD.f(K:YC)(d:SuD):YF:=He.ma K (He.ga K d.x) "__init__"
def SuD.obs(K:YC)(d:SuD):SuV:=match K.lookup (d.f K)with
 | some ⟨_,_,.func fd,_⟩=>some (fd.name,fd.qualname,fd.params,fd.body,fd.scope,fd.globals,fd.closure.map (·.1),fd.builtins)
 | _=>none
def SuD.val(d:SuD):SuV:=some ("__init__",d.qual,Y3 d.st,.stmts (Y2 d.st),YW d.st,mainGlobals,["__class__"],builtinsNs)
def Zp2(K:YC)(C:YF):List (Str×YF)→Bool
 | [q]=>(match K.lookup q.2 with
   | some ⟨_,_,.cell (some (.ref C')),_⟩=>C' == C
   | _=>false)
 | _=>false
def Zp3(K:YC)(file:Str):YI→Bool
 | .ref cda=>(match K.lookup cda with
   | some ⟨_,_,.fields vs,_⟩=>(match (vs[2]? : Option YI)with
     | some (Value.str fl _)=>file == fl
     | _=>false)
   | _=>false)
 | _=>false
def SuD.fnB(K:YC)(file:Str)(d:SuD):Bool:=match K.lookup (d.f K)with
 | some ⟨_,_,.func fd,_⟩=>PySem.W.codeIn K fd.code d.qual && (Zp2 K (d.C K) fd.closure && Zp3 K file fd.code)
 | _=>false
def SuD.clB(K:YC)(d:SuD):Bool:=PySem.W.excInitIn K (d.C K) d.bm d.newId && (decide (PySem.W.mroIn K (d.C K) (.ref (d.C K))=some true) && (He.eqO (PySem.W.ks_superIn K (d.C K) (d.C K) "__init__") (some (some (.builtin d.i))) &&
 (decide (PySem.W.subIn K (.ref (d.C K)) (.type d.B)=some true) && (He.eqO (PySem.W.nsIn K PySem.cStatics "thirdparty.any") (some none) && (decide (PySem.W.subIn K (.ref (d.C K)) (.type "BaseException")=some true) &&
 (decide (PySem.W.typeIn K (.ref (d.C K))=some (.type "type")) && (PySem.W.keepIn K (.ref (d.C K)) && (He.eqO (PySem.W.findIn K (.ref (d.C K)) "__init__") (some (some (.ref (d.f K)))) && (decide (PySem.W.typeIn K (.ref (d.f K))=some (.type "function")) &&
 (d.fs.all fun f=>He.eqO (PySem.W.findIn K (.ref (d.C K)) f) (some none)))))))))))
theorem SuD.suDef{P:YG}{K:YC}{d:SuD}(e:d.obs K=d.val)(c:d.fnB K P.main.file=true):∃ fd,Zmf P K d.qual d.st (d.f K) (d.C K) fd:=by
 unfold SuD.fnB at c
 unfold SuD.obs at e
 cases q:K.lookup (d.f K)with
 | none=>rw[q]at c; cases c
 | some o =>
   obtain⟨oc,od,dt,osl⟩:=o
   rw[q]at c e
   cases dt with
   | func fd =>
     obtain⟨n1,n2,n3,n4,n5,n6,n7,n8,n9,n10,n11,n12,n13,n14,n15⟩:=fd
     have e2:(some (n1,n2,n3,n4,n5,n6,n7.map (·.1),n15):SuV)=(some ("__init__",d.qual,Y3 d.st,.stmts (Y2 d.st),YW d.st,mainGlobals,["__class__"],builtinsNs):SuV):=e
     simp only[Option.some.injEq,Prod.mk.injEq]at e2
     obtain⟨h1,h2,h3,h4,h5,h6,h7,h8⟩:=e2
     have c2:(PySem.W.codeIn K n13 d.qual && (Zp2 K (d.C K) n7 && Zp3 K P.main.file n13))=true:=c
     obtain⟨k1,k2⟩:=He.ba c2
     obtain⟨k3,k4⟩:=He.ba k2
     subst h1 h2 h3 h4 h5 h6 h8
     match n7,h7,k3,q with
     | [(y,cc)],h7,k3,q =>
       have ey:y=("__class__" : Str):=by simpa using h7
       subst ey
       have k3':(match K.lookup cc with
        | some ⟨_,_,.cell (some (.ref C')),_⟩=>C' == d.C K
        | _=>false)=true:=k3
       cases qc:K.lookup cc with
       | none=>rw[qc]at k3'; cases k3'
       | some ob =>
         rw[qc]at k3'
         split at k3'
         ·rename_i cl cld C' csl hob
          cases hob
          have eC:C'=d.C K:=beq_iff_eq.mp k3'
          rw[eC]at qc
          cases n13 with
          | ref cda =>
            have k4':(match K.lookup cda with
             | some ⟨_,_,.fields vs,_⟩=>(match (vs[2]? : Option YI)with
               | some (Value.str fl _)=>P.main.file == fl
               | _=>false)
             | _=>false)=true:=k4
            cases qd:K.lookup cda with
            | none=>rw[qd]at k4'; cases k4'
            | some oo =>
              rw[qd]at k4'
              split at k4'
              ·rename_i ccl cdd vs ccs hoo
               cases hoo
               split at k4'
               ·rename_i fl tf hv
                exact⟨_,⟨oc,od,n8,n9,n10,n11,n12,.ref cda,n14,osl,cc,_,_,_,cda,_,_,vs,_,fl,tf,rfl,q,k1,qc,rfl,qd,hv,k4'⟩⟩
               ·cases k4'
              ·cases k4'
          | _=>cases k4
         ·cases k3'
   | _=>cases c
theorem SuD.xcls{K:YC}{d:SuD}(fb:ExcBaseFacts d.B d.newId d.i d.bm)(kx:PySem.W.KxsFacts d.B d.i)(og:Zky K (d.C K))(c:d.clB K=true):ZpG K (d.C K) (d.f K) d.B d.newId d.i d.bm d.fs:=by
 obtain⟨c1,c⟩:=He.ba c
 obtain⟨c2,c⟩:=He.ba c
 obtain⟨c3,c⟩:=He.ba c
 obtain⟨c4,c⟩:=He.ba c
 obtain⟨c5,c⟩:=He.ba c
 obtain⟨c6,c⟩:=He.ba c
 obtain⟨c7,c⟩:=He.ba c
 obtain⟨c8,c⟩:=He.ba c
 obtain⟨c9,c⟩:=He.ba c
 obtain⟨c10,c11⟩:=He.ba c
 exact⟨⟨fb,kx,c1,of_decide_eq_true c2,He.eqO_ok c3,of_decide_eq_true c4,He.eqO_ok c5⟩,og,of_decide_eq_true c6,of_decide_eq_true c7,c8,He.eqO_ok c9,of_decide_eq_true c10,fun f hf=>He.eqO_ok (List.all_eq_true.mp c11 f hf)⟩
def Zr3(K:YC)(C:YF):Bool:=PySem.W.plainGet K C Str.empty && (PySem.W.isClsIn K C && (PySem.W.plainOver K C && He.eqO (PySem.W.findIn K (.ref C) "__setattr__") (some (some (.builtin "object.__setattr__")))))
theorem Zn4{K:YC}{C:YF}(c:Zr3 K C=true):SCls K C:=by
 obtain⟨c1,c⟩:=He.ba c
 obtain⟨c2,c⟩:=He.ba c
 obtain⟨c3,c4⟩:=He.ba c
 exact⟨c1,c2,c3,He.eqO_ok c4⟩
def Zlk(K:YC)(C:YF)(f:Str)(i:Nat):Bool:=He.eqO (PySem.W.findIn K (.ref C) f) (some (some (.ref (He.ma K C f)))) && (He.eqO (PySem.W.specialIn K (.ref (He.ma K C f)) "__get__") (some (some (.builtin "member_descriptor.__get__"))) &&
 (decide (PySem.W.takesIn K (.ref (He.ma K C f))=some true) && (decide (PySem.W.typeIn K (.ref (He.ma K C f))=some (.type "member_descriptor")) && (decide (PySem.W.slotIn K (He.ma K C f) C=some i) && decide (i < 1000)))))
theorem slotB_ok{K:YC}{C:YF}{f:Str}{i:Nat}(c:Zlk K C f i=true):Slot1 K C f (He.ma K C f) i:=by
 obtain⟨c1,c⟩:=He.ba c
 obtain⟨c2,c⟩:=He.ba c
 obtain⟨c3,c⟩:=He.ba c
 obtain⟨c4,c⟩:=He.ba c
 obtain⟨c5,c6⟩:=He.ba c
 exact⟨He.eqO_ok c1,He.eqO_ok c2,of_decide_eq_true c3,of_decide_eq_true c4,of_decide_eq_true c5,of_decide_eq_true c6⟩
def pga(K:YC)(C:YF)(f:Str):YF:=match PySem.W.recIn K (He.ma K C f) "property" with
 | some (.ref g :: _)=>g
 | _=>0
def Zr4(K:YC)(C:YF)(f:Str):Bool:=He.eqO (PySem.W.findIn K (.ref C) f) (some (some (.ref (He.ma K C f)))) && (He.eqO (PySem.W.specialIn K (.ref (He.ma K C f)) "__get__") (some (some (.builtin "property.__get__"))) &&
 (decide (PySem.W.takesIn K (.ref (He.ma K C f))=some true) && (match PySem.W.recIn K (He.ma K C f) "property" with
  | some (.ref g :: _)=>true
  | _=>false)))
structure PrD where
 x:Str
 f:Str
 st:YK
 qual:Str
 cm:Bool:=false
def PrD.g(K:YC)(d:PrD):YF:=match d.cm with
 | false=>pga K (He.ga K d.x) d.f
 | true=>He5.wf K (He.ga K d.x) "classmethod" d.f
def PrD.own(K:YC)(d:PrD):Bool:=match d.cm with
 | false=>Zr4 K (He.ga K d.x) d.f
 | true=>He5.wrapB K (He.ga K d.x) "classmethod" "classmethod.__get__" d.f
def PrD.obs(K:YC)(d:PrD):He.FnW:=match K.lookup (d.g K)with
 | some ⟨_,_,.func fd,_⟩=>some (fd.name,fd.qualname,fd.params,fd.body,fd.scope,fd.globals,fd.closure,fd.builtins)
 | _=>none
def PrD.val(d:PrD):He.FnW:=some (d.f,d.qual,Y3 d.st,.stmts (Y2 d.st),YW d.st,mainGlobals,[],builtinsNs)
def PrD.ok(K:YC)(d:PrD):Bool:=d.own K && (PySem.W.keepIn K (.ref (d.g K)) && (match K.lookup (d.g K)with
 | some ⟨_,_,.func fd,_⟩=>PySem.W.codeIn K fd.code d.qual && decide (fd.defaults = .none)
 | _=>false))
abbrev AlC:Type:=He.AlT×Bool×List SuV×List He.FnW
def ZqY(n:Nat)(xs:List YF)(fa:List He.Fa)(fn:List He.DefD)(ts:List He.Tab)(su:List SuD)(pr:List PrD)(ex:YC→Bool)(g:YF→Option Obj):AlC:=(fun K=>(He.obsT fa fn ts K,ex K,su.map (SuD.obs K),pr.map (PrD.obs K))) (frB g n xs)
def ZsZ(fn:List He.DefD)(ts:List He.Tab)(su:List SuD)(pr:List PrD)(w:YH):AlC:=(He.valT fn ts w,true,su.map SuD.val,pr.map PrD.val)
structure Zll(fa:List He.Fa)(fn:List He.DefD)(ts:List He.Tab)(su:List SuD)(pr:List PrD)(ex:YC→Bool)(w:YH)(K:YC):Prop where
 t:He.SaysT fa fn ts w K
 more:ex K=true
 su:su.map (SuD.obs K)=su.map SuD.val
 pr:pr.map (PrD.obs K)=pr.map PrD.val
section
variable {n:Nat} {xs:List YF} {fa:List He.Fa} {fn:List He.DefD} {ts:List He.Tab} {su:List SuD} {pr:List PrD} {ex:YC→Bool} {w:YH}
theorem Zmq{h:Heap}(e:ZqY n xs fa fn ts su pr ex h.get? = ZsZ fn ts su pr w):Zll fa fn ts su pr ex w (frB h.get? n xs) :=
 ⟨congrArg (fun z:AlC=>z.1) e,congrArg (fun z:AlC=>z.2.1) e,congrArg (fun z:AlC=>z.2.2.1) e,congrArg (fun z:AlC=>z.2.2.2) e⟩
def Zp4(n:Nat)(xs:List YF)(fa:List He.Fa)(fn:List He.DefD)(ts:List He.Tab)(su:List SuD)(pr:List PrD)(ex:YC→Bool):PySem.W.Hook where
 α:=AlC
 obs:=fun s=>ZqY n xs fa fn ts su pr ex s.heap.get?
 val:=fun w=>ZsZ fn ts su pr w
 says:=fun w h=>∃ K:YC,K.In h∧Zll fa fn ts su pr ex w K
 of:=fun _ _ e=>⟨_,Zp1,Zmq e⟩
 keeps:=fun _ _ _ ⟨K,hK,c⟩ k=>⟨K,YC.In.keeps hK k,c⟩
theorem Zn5{g:YF→Option Obj}{s:YJ}(h:∀ a,g a=s.heap.get? a):ZqY n xs fa fn ts su pr ex g=(Zp4 n xs fa fn ts su pr ex).obs s:=by
 have e:g=s.heap.get?:=funext h
 rw[e] <;> rfl
theorem Zll.su_{K:YC}(c:Zll fa fn ts su pr ex w K)(i:Nat){d:SuD}(h:su[i]? = some d:=by rfl):d.obs K=d.val:=by
 have e2:(su.map (SuD.obs K))[i]? = (su.map SuD.val)[i]?:=by rw[c.su]
 rw[Ym,Ym,h]at e2
 exact Option.some.inj e2
end
end M
namespace M
open PySem PySem.Spec PyProof.Rows L2 SlX
end M
namespace M
open PySem PySem.Spec PyProof.Rows L2 L2H SlX
structure ZqZ(P:YG)(w:YH)(K:YC)(mg:Str→Option YI)(base:Heap)(k:Nat)(x:Str)(sp:Sp):Prop where mk0 ::
 ex:∃ (f:YF) (fd:YE) (ps:List Str),Xn P w K mg base (L2N.CX P w) k f fd ps sp∧mg x=some (.ref f)∧PySem.W.keepIn K (.ref f)=true∧Binds K fd ps []
theorem Zr5{X:Cx}{W:WX}{k j:Nat}{x:Str}{sp:Sp}{e:Expr}{es:List Expr}{t:TA}{p pos:Pos}(c:ZqZ X.prog X.w X.K X.mg X.base k x sp)(tk:L2N.Takes X W)(hr:Room j X.A)(hk:k ≤ j)(hg:Gl X x)(ha:PA X (e :: es) t)(hdb:(x == ("__debug__" : Str))=false:=by decide)
  (he:starEach (e :: es) X.env=(false,eval e X.env) :: starEach es X.env:=by rfl) (hpl:(backTo pos (starEach es X.env)).any (·.1)=false:=by rfl) :
  PE X (.Call (.Name x p) (e :: es) [] pos) (tCallS sp (WE W) t):=by
 obtain⟨f,fd,ps,F,hm,kp,b⟩:=c.ex
 exact pe_callS F (hr.mono hk) hg hm kp b (L2N.passAt tk) ha hdb he hpl
structure XTx(K:YC)(mg:Str→Option YI)(x:Str)(C:YF):Prop where mk0 ::
 ex:∃ (B newId i:String) (bmB:List YI),ExcBaseFacts B newId i bmB∧PySem.W.excIn K C bmB newId=true∧mg x=some (.ref C)∧PySem.W.keepIn K (.ref C)=true∧PySem.W.subIn K (.ref C) (.type "BaseException")=some true∧PySem.W.typeIn K (.ref C)=some (.type "type")
theorem XTx.mk{X:Cx}{x m:Str}{C:YF}{j:Nat}{p p2 pos:Pos}(c:XTx X.K X.mg x C)(hg:Gl X x)(hdb:(x == ("__debug__" : Str))=false:=by decide):L2N.PMk X (.Call (.Name x p) [.Constant (.str m) j p2] [] pos) (fun _ H Q=>Q (.ref C) none H):=by
 obtain⟨B,newId,i,bmB,h1,h2,h3,h4,h5,h6⟩:=c.ex
 exact L2N.pmk_own h1 h2 h3 h4 (raises_own h5 h6) hg hdb
def xtB(K:YC)(C:YF):Bool:=PySem.W.excIn K C [.type "ValueError",.type "Exception",.type "BaseException",.type "object"] "ValueError.__new__" && (PySem.W.keepIn K (.ref C) && (decide (PySem.W.subIn K (.ref C) (.type "BaseException")=some true) && decide (PySem.W.typeIn K (.ref C)=some (.type "type"))))
theorem Znn{K:YC}{mg:Str→Option YI}{x:Str}{C:YF}(h:xtB K C=true)(g:mg x=some (.ref C)):XTx K mg x C:=by
 obtain⟨h1,h⟩:=He.ba h
 obtain⟨h2,h⟩:=He.ba h
 obtain⟨h3,h4⟩:=He.ba h
 exact⟨⟨_,_,_,_,PySem.F.excBase_ValueError,h1,g,h2,of_decide_eq_true h3,of_decide_eq_true h4⟩⟩
end M
namespace PySem.W
open PySem PySem.Spec PySem.Calls PyProof.Rows
section
variable {P:YG} {w:YH} {B:Around} {F:YI→YJ→Prop} {t:YJ} {L:Frag} {y C:YF} {oy:Obj} {od:Option Obj}
theorem Zlm{nm:Str}{a g:YI}(h1:(clsIn L C).isSome=true)(h2:findIn L (.ref C) nm=some (some a))(h3:specialIn L a "__get__" = some (some g)) (h4:takesIn L a=some true):findObj L C od nm=some (.bind g a):=by
 obtain⟨cd,e⟩:=Option.isSome_iff_exists.mp h1
 unfold findObj
 rw[e,Option.bind_some,h2,Option.bind_some]
 simp[h3,h4]
theorem cls_attr{R:Option YI→YJ→Prop}(c:L2.ExcC L C)(X:L.In t.heap)(I:InstAt t.heap y oy C od)(h:R (some (.ref C)) { t with toks:=t.toks + 1 }):wpAny (model P w) B (getAttr? (.ref y) "__class__") R F t:=by
 have hf:findObj L C od "__class__" = some (.bind (.builtin "getset_descriptor.__get__") (.builtin "object.__class__")):=Zlm (by obtain⟨cd,e,_⟩:=any_some c.hd; rw[e]; rfl) c.ha c.hn c.ht
 obtain⟨h0,g0,d0,t0,os0⟩:=t
 have K0:=I.type (M:=model P w)
 have K1:=looks_findIn (M:=model P w) X c.hg
 have K2:=looks_findIn (M:=model P w) X c.hk
 have K3:=looks_find (M:=model P w) X I hf
 have sb:Looks (model P w) h0 (isInstance (.ref y) (.type "BaseException")) true:=K0.andThen (looks_subIn X c.hs)
 have z2:(Value.builtin "BaseException.__getattribute__" == Value.builtin "object.__getattribute__")=false:=by decide +kernel
 have z1:(onTheHeap (Value.ref C) && Value.builtin "BaseException.__getattribute__" == Value.builtin "object.__getattribute__")=false:=by rw[z2]; rfl
 have z0:(false && onTheHeap (Value.builtin "BaseException.__getattribute__"))=false:=rfl
 unfold getAttr?
 unfold getAttrBy?
 unfold getAttrBy
 refine YD (wpAny_mkText (YD (wpAny_attempt (wpAny_holding (YD (K0.at (YD (K1.at ?_))))))))
 show wpAny _ _ (if (onTheHeap (Value.ref C) && Value.builtin "BaseException.__getattribute__" == Value.builtin "object.__getattribute__")=true then _ else _) _ _ _
 rw[z1]
 rw[if_neg Bool.false_ne_true]
 unfold getAttrByItsOwn
 unfold hookBefore
 refine YD ?_
 rw[if_pos (show onTheHeap (Value.ref C)=true from rfl)]
 refine K2.at ?_
 refine YD (wpAny_attempt (wpAny_holding ?_))
 unfold callGetattribute
 rw[z0]
 rw[if_neg Bool.false_ne_true]
 unfold boundAndCalled
 rw[PySem.F.excAttr_ValueError.ga.bind (.ref y)]
 refine YD (YL ?_)
 show wpAny _ _ (call (.builtin "BaseException.__getattribute__") [.ref y,.str "__class__" t0]) _ _ _
 refine wpAny_call (codeAny_call_builtin PySem.F.excAttr_ValueError.ga.plain PySem.F.entry_bexc_ga (?_))
 refine @check_slot (model P w) _ _ ⟨h0,g0,d0,t0 + 1,os0⟩ "BaseException.__getattribute__" "BaseException" "__getattribute__" (.ref y) [.str "__class__" t0] [] _ (by decide +kernel) (by decide +kernel) sb (PySem.F.args_bexc_ga (.ref y) (.str "__class__" t0)) ?_
 unfold Builtin.«object.__getattribute__»
 refine YD (wpAny_of_eq (a:=((Value.ref y:YI),[Value.str "__class__" t0])) (by first | rfl | (simp only[slotArgs]; rfl)) ?_)
 refine YD (YL (YD (K0.at (YD (K3.at ?_)))))
 show wpAny _ _ (holding [Value.builtin "object.__class__"] (call (.builtin "getset_descriptor.__get__") [.builtin "object.__class__",.ref y,.ref C]) >>= ret) _ _ _
 refine YD (wpAny_holding (wpAny_call (class_get (s:=⟨h0,g0,d0,t0 + 1,os0⟩) (ox:=oy) (od:=od) X I c.hm ?_)))
 refine YL (?_)
 show wpAny _ _ (handedOut (.ref C)) _ _ _
 rw[handedOut_of (v:=.ref C) rfl]
 first
  | exact YL (YL h)
  | exact YL h
  | exact YL (YD (YL (YL h)))
theorem kitx_excO(c:L2.ExcC L C):KitX L (.ref y) (.ref C) (fun h=>InstAt h y oy C od) where
 ty:=fun _ _ _ I=>I.type
 it:=fun _ _ X _=>by
  obtain⟨cd,e,_⟩:=any_some c.hd
  unfold clsIn at e
  split at e
  ·rename_i c1 d1 cd1 sl1 ho
   intro A1 Q1 E1 s1 k q
   unfold isType
   unfold loadHead
   exact YD (wpAny_loadPart (k _ _ (X _ _ ho)) (YL q))
  ·cases e
 ne:=fun h tp dd its n sl X htp=>by
  obtain⟨cd,e,_⟩:=any_some c.hd
  refine Bool.eq_false_iff.mpr fun q=>?_
  have e0:C=tp:=Value.ref.inj (beq_iff_eq.mp q)
  subst e0
  unfold clsIn at e
  split at e
  ·rename_i c1 d1 cd1 sl1 ho
   have z:=(X _ _ ho).symm.trans htp
   cases z
  ·cases e
 ca:=fun X I k=>cls_attr c X I k
end
end PySem.W
namespace M
open PySem PySem.Spec PyProof.Rows L2 L2H SlX
def Zr6(K:YC)(a C:YF)(cls:YI)(d:Option YF):List V→Hp→VK→Prop:=fun xs H Q=>∃ (c:V) (cv:YI) (b:Bool),xs=[.ref a,c]∧cls = .ref C∧(∀ dd,d=some dd→∃ fs,H dd=some (.xd fs))∧(∀ u,RelV c u→u=cv)∧PySem.W.kitOne K (.ref C) cv=some b∧Q (.bl b) H
theorem Zj9{X:Cx}{a T C:YF}{oe oT:Obj}{cls:YI}{d:Option YF}{pins:List (YF×Obj)}{xe:YI→YJ→Prop}(c:ExcC X.K C)(F:ZpL X a oe T oT cls d pins):CallR (suY X a oe T oT pins xe) (.builtin "isinstance") (Zr6 X.K a C cls d):=by
 intro pn' s σ H xs us Q I r h
 obtain⟨v,cv,b,rfl,ec,hd,hcv,e,q⟩:=h
 subst ec
 cases r with
 | cons rx rr =>
   cases rr with
   | cons rt rr =>
     cases rr
     cases rx
     have e1:=hcv _ rt
     subst e1
     obtain⟨ha,_⟩:=Zmh I
     obtain⟨vs,tt,hdat,_⟩:=F.f
     cases d with
     | none =>
       have J:PySem.W.InstAt s.heap a oe C none:=⟨ha,F.z.1,by unfold PySem.W.notCls; rw[hdat] <;> rfl,by rw[F.z.2.1]; trivial⟩
       exact PySem.W.kia_one (PySem.W.kitx_excO c) I.kIn J e (fun z=>nomatch z) fun tk=>⟨.bl b,H,I.tok tk,rfl,q⟩
     | some dd =>
       obtain⟨fs,ed⟩:=hd dd rfl
       have hx:ObjOk X.prog X.w H s.heap dd (.xd fs):=I.hok dd _ ed
       obtain⟨mA,hns,hr⟩:=hx
       obtain⟨od,ho,hl⟩:=lookIn_ns hns
       have J:PySem.W.InstAt s.heap a oe C (some od):=⟨ha,F.z.1,by unfold PySem.W.notCls; rw[hdat] <;> rfl,by rw[F.z.2.1]; exact ho⟩
       exact PySem.W.kia_one (PySem.W.kitx_excO c) I.kIn J e (fun z=>nomatch z) fun tk=>⟨.bl b,H,I.tok tk,rfl,q⟩
def Zjj(K:YC)(C:YF):Bool:=He.eqO (PySem.W.findIn K (.ref C) "__getattribute__") (some (some (.builtin "BaseException.__getattribute__"))) && (He.eqO (PySem.W.findIn K (.ref C) "__getattr__") (some none) && (decide (PySem.W.subIn K (.ref C) (.type "BaseException")=some true) && (PySem.W.hasDictIn K C &&
 (He.eqO (PySem.W.findIn K (.ref C) "__class__") (some (some (.builtin "object.__class__"))) && (He.eqO (PySem.W.specialIn K (.builtin "object.__class__") "__get__") (some (some (.builtin "getset_descriptor.__get__"))) && (decide (PySem.W.takesIn K (.builtin "object.__class__")=some true) && decide (PySem.W.mroIn K C (.type "object")=some true)))))))
theorem Zj_{K:YC}{C:YF}(h:Zjj K C=true):ExcC K C:=by
 obtain⟨h1,h⟩:=He.ba h
 obtain⟨h2,h⟩:=He.ba h
 obtain⟨h3,h⟩:=He.ba h
 obtain⟨h4,h⟩:=He.ba h
 obtain⟨h5,h⟩:=He.ba h
 obtain⟨h6,h⟩:=He.ba h
 obtain⟨h7,h8⟩:=He.ba h
 exact⟨He.eqO_ok h1,He.eqO_ok h2,of_decide_eq_true h3,h4,He.eqO_ok h5,He.eqO_ok h6,of_decide_eq_true h7,of_decide_eq_true h8⟩
theorem Zky.vl{K:YC}{C:YF}{cd:ClassData}(sa:PySem.W.findIn K (.ref C) "__setattr__" = some (some (.builtin "object.__setattr__"))) (hcl:PySem.W.clsIn K C=some cd) (hm:PySem.HandSPX.refsVE cd.mro=true) (hh:cd.hasDict=true):Zky K C :=
 ⟨sa,fun X hx ha hq=>PySem.HandSPX.exc_osa X hx hcl hm hh ha hq,fun X hx hn hw hz ha hq=>PySem.OEX.osa_old X hx hn hw hz hcl hm hh ha hq⟩
def SuD.veB(K:YC)(d:SuD):Bool:=He.eqO (PySem.W.findIn K (.ref (d.C K)) "__setattr__") (some (some (.builtin "object.__setattr__"))) && ((PySem.W.clsIn K (d.C K)).any fun cd=>PySem.HandSPX.refsVE cd.mro && cd.hasDict)
theorem SuD.oexV{K:YC}{d:SuD}(c:d.veB K=true):Zky K (d.C K):=by
 obtain⟨c1,c2⟩:=He.ba c
 cases q:PySem.W.clsIn K (d.C K)with
 | none=>rw[q]at c2; cases c2
 | some cd =>
   rw[q]at c2
   obtain⟨c3,c4⟩:=He.ba (show(PySem.HandSPX.refsVE cd.mro && cd.hasDict)=true from c2)
   exact Zky.vl (He.eqO_ok c1) q c3 c4
def kitB(K:YC)(C D:YF):Bool:=decide (PySem.W.kitOne K (.ref C) (.ref D)=some true)
theorem Zln{K:YC}{C D:YF}(h:kitB K C D=true):PySem.W.kitOne K (.ref C) (.ref D)=some true:=of_decide_eq_true h
section
variable {r:PySem.W.OpenRow} {q:YG} {M n:Nat} {loose:List PySem.Str} {w:YH} {xs:List YF} {fa:List He.Fa} {fn:List He.DefD} {ts:List He.Tab} {su:List SuD} {pr:List PrD} {ex1 ex2:YC→Bool}
end
theorem Zi_{l:List Bool}(h:l.all id=true)(i:Nat){b:Bool}(e:l[i]? = some b):b=true:=List.all_eq_true.mp h b (Yj e)
def Zq0(K:YC)(f:YF):Bool:=match K.lookup f with
 | some ⟨_,_,.func fd,_⟩=>decide (fd.defaults = .none)
 | _=>false
abbrev PP:YG:=PySem.Challenge.pw_modlink_k35_renamings_refused
def ZfV:He.DefD:=⟨("is_integer",none), "is_integer", "is_integer",Y3 ZaA,Y2 ZaA,YW ZaA,[],[]⟩
def Ziy:He.DefD:=⟨("is_name",none), "is_name", "is_name",Y3 ZbT,Y2 ZbT,YW ZbT,[],[]⟩
def Zgu:He.DefD:=⟨("blocks_of",none), "blocks_of", "blocks_of",Y3 Zbj,Y2 Zbj,YW Zbj,[],[]⟩
def Zhj:He.DefD:=⟨("names_of",none), "names_of", "names_of",Y3 ZbE,Y2 ZbE,YW ZbE,[],[]⟩
def Zdn:He.DefD:=⟨("expressions_of",none), "expressions_of", "expressions_of",Y3 ZW,Y2 ZW,YW ZW,[],[]⟩
def ZdA:He.DefD:=⟨("statements_in",none), "statements_in", "statements_in",Y3 Z8,Y2 Z8,YW Z8,[],[]⟩
def Zhk:He.DefD:=⟨("depth_of",none), "depth_of", "depth_of",Y3 ZbF,Y2 ZbF,YW ZbF,[],[]⟩
def ZbU:He.DefD:=⟨("is_valid_expression",none), "is_valid_expression", "is_valid_expression",Y3 Zu,Y2 Zu,YW Zu,[],[]⟩
def Zb4:He.DefD:=⟨("is_valid_statement",none), "is_valid_statement", "is_valid_statement",Y3 Zp,Y2 Zp,YW Zp,[],[]⟩
def Zfi:He.DefD:=⟨("first_fault",none), "first_fault", "first_fault",Y3 Zak,Y2 Zak,YW Zak,[],[]⟩
def Ziz:He.DefD:=⟨("read_in",none), "read_in", "read_in",Y3 Zcl,Y2 Zcl,YW Zcl,[],[]⟩
def Zgv:He.DefD:=⟨("places_of",none), "places_of", "places_of",Y3 ZaB,Y2 ZaB,YW ZaB,[],[]⟩
def ZfW:He.DefD:=⟨("can_rename",none), "can_rename", "can_rename",Y3 ZaC,Y2 ZaC,YW ZaC,[],[]⟩
def ZiA:He.DefD:=⟨("renamed",none), "renamed", "renamed",Y3 Zba,Y2 Zba,YW Zba,[],[]⟩
def ZiB:He.DefD:=⟨("_law_mix",none), "_law_mix", "_law_mix",Y3 Zcm,Y2 Zcm,YW Zcm,[],[]⟩
def Zhl:He.DefD:=⟨("_law_next",none), "_law_next", "_law_next",Y3 ZbG,Y2 ZbG,YW ZbG,[],[]⟩
def Zhm:He.DefD:=⟨("_law_name",none), "_law_name", "_law_name",Y3 Zbn,Y2 Zbn,YW Zbn,[],[]⟩
def Zgw:He.DefD:=⟨("_law_names",none), "_law_names", "_law_names",Y3 Zbk,Y2 Zbk,YW Zbk,[],[]⟩
def Zfj:He.DefD:=⟨("_law_integer",none), "_law_integer", "_law_integer",Y3 Zal,Y2 Zal,YW Zal,[],[]⟩
def Zhn:He.DefD:=⟨("_law_expr",none), "_law_expr", "_law_expr",Y3 ZbH,Y2 ZbH,YW ZbH,[],[]⟩
def Zho:He.DefD:=⟨("_law_load",none), "_law_load", "_law_load",Y3 ZbI,Y2 ZbI,YW ZbI,[],[]⟩
def ZdB:He.DefD:=⟨("_law_statement",none), "_law_statement", "_law_statement",Y3 Z9,Y2 Z9,YW Z9,[],[]⟩
def Zhp:He.DefD:=⟨("_law_rows",none), "_law_rows", "_law_rows",Y3 Zbo,Y2 Zbo,YW Zbo,[],[]⟩
def Zdo:He.DefD:=⟨("_law_first_rows",none), "_law_first_rows", "_law_first_rows",Y3 ZY,Y2 ZY,YW ZY,[],[]⟩
def Zfk:He.DefD:=⟨("_law_program",none), "_law_program", "_law_program",Y3 Zam,Y2 Zam,YW Zam,[],[]⟩
def Zdp:He.DefD:=⟨("_law_plain_expr",none), "_law_plain_expr", "_law_plain_expr",Y3 ZZ,Y2 ZZ,YW ZZ,[],[]⟩
def Zgx:He.DefD:=⟨("_law_plain",none), "_law_plain", "_law_plain",Y3 Zbl,Y2 Zbl,YW Zbl,[],[]⟩
def Zgy:He.DefD:=⟨("_law_fresh",none), "_law_fresh", "_law_fresh",Y3 ZaD,Y2 ZaD,YW ZaD,[],[]⟩
def ZdC:He.DefD:=⟨("_law_renamable",none), "_law_renamable", "_law_renamable",Y3 ZS,Y2 ZS,YW ZS,[],[]⟩
def Zfl:He.DefD:=⟨("_law_refused",none), "_law_refused", "_law_refused",Y3 Z5,Y2 Z5,YW Z5,[],[]⟩
def ZfX:He.DefD:=⟨("_law_reason",none), "_law_reason", "_law_reason",Y3 ZaE,Y2 ZaE,YW ZaE,[],[]⟩
def Zp5:He.DefD:=⟨("law",none), "law", "law",Y3 Zix,Y2 Zix,YW Zix,[],[]⟩
def Zcy:He.DefD:=⟨("Program",some "__init__"), "__init__", "Program.__init__",Y3 ZD,Y2 ZD,YW ZD,[],[]⟩
def ZbV:He.DefD:=⟨("Program",some "__getitem__"), "__getitem__", "Program.__getitem__",Y3 Zv,Y2 Zv,YW Zv,[],[]⟩
def ZbC:He.DefD:=⟨("Program",some "__contains__"), "__contains__", "Program.__contains__",Y3 Zt,Y2 Zt,YW Zt,[],[]⟩
def Zcn:He.DefD:=⟨("Program",some "all_names"), "all_names", "Program.all_names",Y3 ZE,Y2 ZE,YW ZE,[],[]⟩
def Zbp:He.DefD:=⟨("Program",some "each_statement"), "each_statement", "Program.each_statement",Y3 Ze,Y2 Ze,YW Ze,[],[]⟩
def Zcz:He.DefD:=⟨("Renamer",some "__init__"), "__init__", "Renamer.__init__",Y3 ZJ,Y2 ZJ,YW ZJ,[],[]⟩
def Zdq:He.DefD:=⟨("Renamer",some "called"), "called", "Renamer.called",Y3 ZX,Y2 ZX,YW ZX,[],[]⟩
def Zb5:He.DefD:=⟨("Renamer",some "expression"), "expression", "Renamer.expression",Y3 ZA,Y2 ZA,YW ZA,[],[]⟩
def Zco:He.DefD:=⟨("Renamer",some "statement"), "statement", "Renamer.statement",Y3 ZF,Y2 ZF,YW ZF,[],[]⟩
def ZeL:He.DefD:=⟨("Renamer",some "rows"), "rows", "Renamer.rows",Y3 Z6,Y2 Z6,YW Z6,[],[]⟩
def Zw:SuD:=⟨"UnknownModule",Zag, "UnknownModule.__init__", "ValueError", "ValueError.__new__", "ValueError.__init__",[.type "ValueError",.type "Exception",.type "BaseException",.type "object"],["module"]⟩
def fn:List He.DefD:=([ZfV,Ziy,Zgu,Zhj,Zdn,ZdA,Zhk,ZbU,Zb4,Zfi,Ziz,Zgv,ZfW,ZiA,ZiB,Zhl,Zhm,Zgw,Zfj,Zhn,Zho,ZdB,Zhp,Zdo,Zfk,Zdp,Zgx,Zgy,ZdC,Zfl]:List He.DefD)++([ZfX,Zp5,Zcy,ZbV,ZbC,Zcn,Zbp,Zcz,Zdq,Zb5,Zco,ZeL]:List He.DefD)
def fa:List He.Fa:=([.glo "is_integer",.glo "is_name",.glo "blocks_of",.glo "names_of",.glo "expressions_of",.glo "statements_in",.glo "depth_of",.glo "is_valid_expression",.glo "is_valid_statement",.glo "first_fault",.glo "read_in",.glo "places_of",.glo "can_rename",.glo "renamed",.glo "_law_mix",.glo "_law_next",.glo "_law_name",.glo "_law_names",.glo "_law_integer",.glo "_law_expr",.glo "_law_load",.glo "_law_statement",.glo "_law_rows",.glo "_law_first_rows",.glo "_law_program",.glo "_law_plain_expr",.glo "_law_plain",.glo "_law_fresh",.glo "_law_renamable",.glo "_law_refused"]:List He.Fa)++([.glo "_law_reason",.glo "law",.free "isinstance",.free "int",.free "bool",.free "str",.free "len",.free "max",.free "min",.free "range",.free "list",.free "tuple",.free "dict",.free "sorted",.free "enumerate",.free "super",.glo "Program",.glo "Renamer",.glo "UnknownModule",.glo "InvalidName",.glo "CannotRename",.glo "LinkError",.cls "Renamer",.noat "Renamer" "target",.noat "Renamer" "old",.noat "Renamer" "new",.meth "Program" "__init__",.meth "Program" "__getitem__",.meth "Program" "__contains__",.meth "Program" "all_names"]:List He.Fa)++([.meth "Program" "each_statement",.meth "Renamer" "__init__",.meth "Renamer" "called",.meth "Renamer" "expression",.meth "Renamer" "statement",.meth "Renamer" "rows",.mkr "Program",.mkr "Renamer",.exm "UnknownModule" "CannotRename" false,.exm "UnknownModule" "InvalidName" false,.exm "UnknownModule" "UnknownModule" true,.exm "InvalidName" "CannotRename" false,.exm "InvalidName" "InvalidName" true,.exm "CannotRename" "CannotRename" true,.int "MAX_LETTERS" 8,.int "MAX_MODULES" 8,.int "MAX_STATEMENTS" 60,.int "MAX_DEPTH" 3,.int "MAX_OPERATORS" 3,.int "TOO_LARGE" 1000000000000000000000000000000000000000000000000000000000000,.str "LETTERS" "abcdefghijklmnopqrstuvwxyz"]:List He.Fa)
def ts:List He.Tab:=[]
def su:List SuD:=[Zw]
def pr:List PrD:=[]
def exs(K:YC):List Bool:=[Zr3 K (He.ga K "Program"),
 Zlk K (He.ga K "Program") "own_names" 1,
 Zlk K (He.ga K "Program") "own_blocks" 0,
 SuD.fnB K PP.main.file Zw,
 SuD.clB K Zw,
 SuD.veB K Zw,
 xfB K (He.ga K "UnknownModule"),
 Zq0 K (SuD.f K Zw),
 PySem.W.fnIn K (He.ma K (He.ga K "Program") "__getitem__"),
 xtB K (He.ga K "InvalidName"),
 xtB K (He.ga K "CannotRename"),
 Zjj K (He.ga K "UnknownModule"),
 Zjj K (He.ga K "InvalidName"),
 Zjj K (He.ga K "CannotRename"),
 kitB K (He.ga K "InvalidName") (He.ga K "LinkError"),
 kitB K (He.ga K "CannotRename") (He.ga K "LinkError")]
def ex(K:YC):Bool:=(exs K).all id
theorem Zef{K:YC}(h:ex K=true):(exs K).all id=true:=h
def nms:List PySem.Str:=(["_wall", "LinkError", "InvalidProgram", "UnknownModule", "InvalidName", "CannotRename", "LETTERS", "MAX_LETTERS", "MAX_MODULES", "MAX_STATEMENTS", "MAX_DEPTH", "MAX_OPERATORS", "TOO_LARGE", "is_integer", "is_name", "blocks_of", "names_of", "expressions_of", "statements_in", "depth_of", "is_valid_expression", "is_valid_statement", "first_fault", "Program", "Renamer", "read_in", "places_of", "can_rename", "renamed", "_law_mix"]:List PySem.Str)++(["_law_next", "_law_name", "_law_names", "_law_integer", "_law_expr", "_law_load", "_law_statement", "_law_rows", "_law_first_rows", "_law_program", "_law_plain_expr", "_law_plain", "_law_fresh", "_law_renamable", "_law_refused", "_law_reason"]:List PySem.Str)
abbrev R:PySem.W.OpenRow:=PySem.W.OpenLaw.row PySem.Challenge.rw_modlink_k35_renamings_refused
abbrev hk:PySem.W.Hook:=Zp4 5 [PySem.cStatics] fa fn ts su pr ex
def ob(s:PySem.W.SharedT):AlC:=ZqY 5 [PySem.cStatics] fa fn ts su pr ex (HandSHeadRun.getT s)
theorem Zr7(s:PySem.W.SharedT):ob s=hk.obs s.abs:=Zn5 (HandSHeadRun.getT_eq s)
def Zq1(w:YH):Prop:=HandSHeadRun.RunEq R (PySem.W.view R.prog [51]) hk ob 30000 nms w
theorem Zr8(w:YH):Zq1 (w.withFollow "special-get-raises" false):=by intro os; kernel_rfl
theorem Zr9(w:YH):Zq1 (w.withFollow "special-get-raises" true):=by intro os; kernel_rfl
theorem run(w:YH):Zq1 w:=PySem.W.byRow2 "special-get-raises" (P:=Zq1) Zr8 Zr9 w
end M
namespace M
open PySem PyProof.Rows
def Zq2(F:Frame):Frame:=.ret (fun _=>.unsupported "") none false [] F.where_.1 F.where_.2 []
def stk:GenState→GenState
 | .suspended _ l c p fs _=>.suspended (fun _=>.unsupported "") l c p (fs.map Zq2) false
 | x=>x
def Slp:GenState→Prop
 | .suspended ..=>True
 | _=>False
theorem Zka(x:GenState):(stk x).seen=x.seen:=by
 cases x with
 | suspended k l c p fs cl =>
   show(GenStatus.suspended,some ((c,p) :: (fs.map Zq2).map Frame.where_))=_
   rw[Yx]
   rfl
 | _=>rfl
theorem ZiC:∀ fs:List Frame,splitAtGen (fs.map Zq2)=none
 | []=>rfl
 | F :: fs=>by
   show(splitAtGen (fs.map Zq2)).map _=none
   rw[ZiC fs]
   rfl
theorem ZiD{a b:List Frame}(h1:splitAtGen a=none)(h2:splitAtGen b=none):splitAtGen (a++b)=none:=by
 induction a with
 | nil=>exact h2
 | cons F a ih =>
   cases F with
   | gen=>cases h1
   | ret =>
     have h1:(splitAtGen a).map _=none:=h1
     show(splitAtGen (a++b)).map _=none
     rw[ih (Option.map_eq_none_iff.mp h1)]
     rfl
theorem Zkz{F:Frame}{fs:List Frame}(h:splitAtGen (F :: fs)=none):splitAtGen fs=none:=by
 cases F with
 | gen=>cases h
 | ret =>
   have h:(splitAtGen fs).map _=none:=h
   exact Option.map_eq_none_iff.mp h
def Zn6:GenState→Prop
 | .suspended _ _ _ _ fs _=>splitAtGen fs=none
 | _=>True
theorem Zn7(x:GenState):Zn6 (stk x):=by
 cases x with
 | suspended k l c p fs cl=>exact ZiC fs
 | _=>trivial
def Zn8(gs:Array GenState):Prop:=∀ (i:Nat) (y:GenState),gs[i]? = some y→Zn6 y
theorem Zn8.set{gs:Array GenState}(h:Zn8 gs){i:Nat}{y:GenState}(hy:Zn6 y):Zn8 (gs.setIfInBounds i y):=fun j z hz=>by
 rw[Array.getElem?_setIfInBounds]at hz
 split at hz
 ·split at hz
  ·cases hz; exact hy
  ·cases hz
 ·exact h j z hz
theorem Zn8.push{gs:Array GenState}(h:Zn8 gs){y:GenState}(hy:Zn6 y):Zn8 (gs.push y):=fun j z hz=>by
 rw[Array.getElem?_push]at hz
 split at hz
 ·cases hz; exact hy
 ·exact h j z hz
theorem Zhq{M:Model}{Γ : Ctx}{p:Pos}{t:Sem PySem.Fin}{fs:List Frame}{s s':YJ}{e:End}(h:Runs M Γ p t fs s e s'):∀ w,t≠.unsupported w:=by
 induction h with
 | segRet _ _ ih _=>exact ih
 | segGen _ _ ih _=>exact ih
 | segSuspOut _ _ ih=>exact ih
 | segSuspGen _ _ _ _ ih _=>exact ih
 | _=>exact fun w z=>by cases z
section
variable {M:Model} {X:Nat→Option GenState}
def un(X:Nat→Option GenState)(t:YJ):YJ:={ t with gens:=t.gens.mapIdx fun i y=>(X i).getD y }
theorem Zlo{t:YJ}:(un X t).gens.size=t.gens.size:=Array.size_mapIdx
theorem Zlp{t:YJ}{i:Nat}:(un X t).gens[i]? = (t.gens[i]?).map fun y=>(X i).getD y:=Array.getElem?_mapIdx
theorem Zn9{hp:Heap}{a b:Array GenState}{d:Drawn}{tk:Nat}{o:OsState}(h:a=b):(⟨hp,a,d,tk,o⟩:YJ)=⟨hp,b,d,tk,o⟩:=by rw[h]
def Twn(X:Nat→Option GenState)(t:YJ):Prop:=Zn8 t.gens∧∀ i x,X i=some x→Slp x∧t.gens[i]? = some (stk x)
theorem Twn.off{t:YJ}(h:Twn X t){i:Nat}(hi:t.gens.size ≤ i):X i=none:=by
 cases e:X i with
 | none=>rfl
 | some x =>
   have:=(Array.getElem?_eq_some_iff.mp (h.2 i x e).2).1
   omega
theorem Zlq{t:YJ}(h:Twn X t)(y:GenState):un X { t with gens:=t.gens.push y } = { un X t with gens:=(un X t).gens.push y }:=by
 refine Zn9 ?_
 show(t.gens.push y).mapIdx _=(t.gens.mapIdx _).push y
 apply Array.ext_getElem?
 intro i
 simp only[Array.getElem?_push,Array.getElem?_mapIdx,Array.size_mapIdx]
 by_cases e:i=t.gens.size
 ·rw[if_pos e,if_pos e,h.off (by omega)]
  rfl
 ·rw[if_neg e,if_neg e]
theorem ZbW{t:YJ}{i:Nat}(hi:X i=none)(y:GenState):un X (t.setGen i y)=(un X t).setGen i y:=by
 refine Zn9 ?_
 show(t.gens.setIfInBounds i y).mapIdx _=(t.gens.mapIdx _).setIfInBounds i y
 apply Array.ext_getElem?
 intro j
 simp only[Array.getElem?_setIfInBounds,Array.size_mapIdx,Array.getElem?_mapIdx]
 by_cases e1:i=j
 ·subst e1
  rw[if_pos rfl,if_pos rfl,hi]
  split <;> rfl
 ·rw[if_neg e1,if_neg e1]
theorem Twn.set{t:YJ}(h:Twn X t){i:Nat}(hi:X i=none){y:GenState}(hy:Zn6 y):Twn X (t.setGen i y):=by
 refine⟨h.1.set hy,fun j x hx=>⟨(h.2 j x hx).1,?_⟩⟩
 have ne:i≠j:=fun z=>by rw[z,hx]at hi; cases hi
 show(t.gens.setIfInBounds i y)[j]? = _
 rw[Array.getElem?_setIfInBounds_ne ne]
 exact(h.2 j x hx).2
theorem Twn.push{t:YJ}(h:Twn X t){y:GenState}(hy:Zn6 y):Twn X { t with gens:=t.gens.push y }:=by
 refine⟨h.1.push hy,fun j x hx=>⟨(h.2 j x hx).1,?_⟩⟩
 have lt:=(Array.getElem?_eq_some_iff.mp (h.2 j x hx).2).1
 show(t.gens.push y)[j]? = _
 rw[Array.getElem?_push,if_neg (by omega)]
 exact(h.2 j x hx).2
theorem Twn.awake{t:YJ}(h:Twn X t){i:Nat}{y:GenState}(hy:t.gens[i]? = some y)(ns:¬ Slp y):X i=none:=by
 cases e:X i with
 | none=>rfl
 | some x =>
   obtain⟨h1,h2⟩:=h.2 i x e
   rw[hy]at h2
   cases h2
   cases x <;> first | exact h1.elim | exact absurd trivial ns
theorem Twn.same{t:YJ}{i:Nat}{y:GenState}(hi:X i=none)(hy:t.gens[i]? = some y):(un X t).gens[i]? = some y:=by
 rw[Zlp,hy,hi]
 rfl
theorem Zq3{e:End}(h:∀ v g l k c p fs,e = .susp v g l k c p fs→splitAtGen fs=none):Zn6 e.genState:=by
 cases e with
 | ret r=>trivial
 | susp v g l k c p fs=>exact h _ _ _ _ _ _ _ rfl
def Zs0(e:End):Prop:=∀ v g l k c p fs,e = .susp v g l k c p fs→splitAtGen fs=none
theorem Zkb{r:Result}:Zs0 (.ret r):=fun _ _ _ _ _ _ _ z=>by cases z
theorem Zgz{Γ : Ctx}{q:Pos}{tt:Sem PySem.Fin}{gs:List Frame}{t t':YJ}{e:End}(h:Runs M Γ q tt gs t e t') :
  splitAtGen gs=none→Twn X t→Runs M Γ q tt gs (un X t) e (un X t')∧Twn X t'∧Zs0 e:=by
 induction h with
 | done=>exact fun _ T=>⟨.done,T,Zkb⟩
 | raise=>exact fun _ T=>⟨.raise,T,Zkb⟩
 | again hq _ ih=>exact fun g T=>⟨.again hq (ih g T).1,(ih g T).2⟩
 | rule _ ih=>exact fun g T=>⟨.rule (ih g T).1,(ih g T).2⟩
 | «at» _ ih=>exact fun g T=>⟨.at (ih g T).1,(ih g T).2⟩
 | load ho _ ih=>exact fun g T=>⟨.load ho (ih g T).1,(ih g T).2⟩
 | update hs _ ih=>exact fun g T=>⟨.update hs (ih g T).1,(ih g T).2⟩
 | loadIfAlive _ ih=>exact fun g T=>⟨.loadIfAlive (ih g T).1,(ih g T).2⟩
 | point _ ih=>exact fun g T=>⟨.point (ih g T).1,(ih g T).2⟩
 | alloc _ ih=>exact fun g T=>⟨.alloc (ih g T).1,(ih g T).2⟩
 | fresh _ ih=>exact fun g T=>⟨.fresh (ih g T).1,(ih g T).2⟩
 | ask _ ih=>exact fun g T=>⟨.ask (ih g T).1,(ih g T).2⟩
 | choose hn _ ih=>exact fun g T=>⟨.choose hn (ih g T).1,(ih g T).2⟩
 | os _ ih=>exact fun g T=>⟨.os (ih g T).1,(ih g T).2⟩
 | handled _ ih=>exact fun g T=>⟨.handled (ih g T).1,(ih g T).2⟩
 | @genState i st Γ p k s e s' hg _ ih =>
   intro g T
   refine⟨?_,(ih g T).2⟩
   cases hx:X i with
   | none=>exact .genState (Twn.same hx hg) (ih g T).1
   | some x =>
     obtain⟨h1,h2⟩:=T.2 i x hx
     rw[h2]at hg
     cases hg
     have:=(ih g T).1
     rw[Zka]at this
     exact .genState (by rw[Zlp,h2,hx]; rfl) this
 | stack _ ih=>exact fun g T=>⟨.stack (ih g T).1,(ih g T).2⟩
 | thread _ ih=>exact fun g T=>⟨.thread (ih g T).1,(ih g T).2⟩
 | newGen _ ih =>
   intro g T
   have q:=ih g (Twn.push T trivial)
   refine⟨.newGen ?_,q.2⟩
   rw[Zlo]
   rw[Zlq T]at q
   exact q.1
 | call _ _ ih1 ih2=>exact fun g T=>⟨.call (ih1 rfl T).1 (ih2 g (ih1 rfl T).2.1).1,(ih2 g (ih1 rfl T).2.1).2⟩
 | callSusp _ ih =>
   intro g T
   refine⟨.callSusp (ih rfl T).1,(ih rfl T).2.1,fun _ _ _ _ _ _ _ z=>?_⟩
   cases z
   exact ZiD ((ih rfl T).2.2 _ _ _ _ _ _ _ rfl) rfl
 | yield=>exact fun _ T=>⟨.yield,T,fun _ _ _ _ _ _ _ z=>by cases z; rfl⟩
 | resumeFresh hg _ hq _ ih1 ih2 =>
   intro g T
   have ne:=Twn.awake T hg (fun z=>z)
   have q1:=ih1 rfl (Twn.set T ne trivial)
   have q2:=ih2 g (Twn.set q1.2.1 ne (Zq3 q1.2.2))
   rw[ZbW ne]at q1 q2
   exact⟨.resumeFresh (Twn.same ne hg) q1.1 hq q2.1,q2.2⟩
 | @resumeSuspended Γ p i r l k s k0 l0 c0 p0 fs0 cl0 e1 s1 e s' hg r1 hq _ ih1 ih2 =>
   intro g T
   cases hx:X i with
   | some x =>
     exfalso
     obtain⟨h1,h2⟩:=T.2 i x hx
     rw[h2]at hg
     cases x with
     | suspended k l c p fs cl =>
       cases hg
       exact Zhq r1 _ rfl
     | _=>exact h1.elim
   | none =>
     have q1:=ih1 (T.1 i _ hg) (Twn.set T hx trivial)
     have q2:=ih2 g (Twn.set q1.2.1 hx (Zq3 q1.2.2))
     rw[ZbW hx]at q1 q2
     exact⟨.resumeSuspended (Twn.same hx hg) q1.1 hq q2.1,q2.2⟩
 | resumeJustStarted hg hv _ ih =>
   intro g T
   exact⟨.resumeJustStarted (Twn.same (Twn.awake T hg (fun z=>z)) hg) hv (ih g T).1,(ih g T).2⟩
 | resumeThrowFresh hg _ ih =>
   intro g T
   have ne:=Twn.awake T hg (fun z=>z)
   have q:=ih g (Twn.set T ne trivial)
   rw[ZbW ne]at q
   exact⟨.resumeThrowFresh (Twn.same ne hg) q.1,q.2⟩
 | resumeRunning hg _ ih =>
   intro g T
   exact⟨.resumeRunning (Twn.same (Twn.awake T hg (fun z=>z)) hg) (ih g T).1,(ih g T).2⟩
 | resumeFinished hg _ ih =>
   intro g T
   exact⟨.resumeFinished (Twn.same (Twn.awake T hg (fun z=>z)) hg) (ih g T).1,(ih g T).2⟩
 | segRet _ _ ih1 ih2 =>
   intro g T
   have q1:=ih1 rfl T
   have q2:=ih2 (Zkz g) q1.2.1
   exact⟨.segRet q1.1 q2.1,q2.2⟩
 | segGen _ _ _ _=>exact fun g=>by cases g
 | segSuspOut hs _ ih =>
   intro g T
   refine⟨.segSuspOut hs (ih rfl T).1,(ih rfl T).2.1,fun _ _ _ _ _ _ _ z=>?_⟩
   cases z
   exact ZiD ((ih rfl T).2.2 _ _ _ _ _ _ _ rfl) hs
 | segSuspGen hs _ _ _ _ _=>exact fun g=>by rw[g]at hs; cases hs
theorem ZkA{Γ : Ctx}{p:Pos}{g:Nat}{r:Resume}{t t':YJ}{res:GenResult}(h:Wakes M Γ p g r t res t')(T:Twn X t):Wakes M Γ p g r (un X t) res (un X t')∧Twn X t':=by
 unfold Wakes at h ⊢
 cases hg:t.gens[g]? with
 | none=>rw[hg]at h; exact h.elim
 | some st =>
   rw[hg]at h
   cases hx:X g with
   | some x =>
     obtain⟨h1,h2⟩:=T.2 g x hx
     rw[hg]at h2
     cases h2
     cases x with
     | suspended k l c p fs cl =>
       obtain⟨e,s1,r1,_⟩:=h
       exact(Zhq r1 _ rfl).elim
     | _=>exact h1.elim
   | none =>
     rw[Twn.same hx hg]
     cases st with
     | fresh c =>
       cases r with
       | send v =>
         cases v with
         | none =>
           obtain⟨e,s1,r1,hq,rfl,rfl⟩:=h
           have q1:=Zgz r1 rfl (Twn.set T hx trivial)
           rw[ZbW hx]at q1
           exact⟨⟨e,_,q1.1,hq,rfl,ZbW hx _⟩,Twn.set q1.2.1 hx (Zq3 q1.2.2)⟩
         | _=>obtain⟨rfl,rfl⟩:=h; exact⟨⟨rfl,rfl⟩,T⟩
       | throw x =>
         obtain⟨rfl,rfl⟩:=h
         exact⟨⟨rfl,ZbW hx _⟩,Twn.set T hx trivial⟩
     | suspended k l c p fs cl =>
       obtain⟨e,s1,r1,hq,rfl,rfl⟩:=h
       have q1:=Zgz r1 (T.1 g _ hg) (Twn.set T hx trivial)
       rw[ZbW hx]at q1
       exact⟨⟨e,_,q1.1,hq,rfl,ZbW hx _⟩,Twn.set q1.2.1 hx (Zq3 q1.2.2)⟩
     | running=>obtain⟨rfl,rfl⟩:=h; exact⟨⟨rfl,rfl⟩,T⟩
     | finished=>obtain⟨rfl,rfl⟩:=h; exact⟨⟨rfl,rfl⟩,T⟩
theorem Zn_{α : Type}{Γ : Ctx}(m:Sem α):∀ (Q : α→Pos→YJ→Prop) (E:YI→Pos→YJ→Prop) (p:Pos) (t:YJ),Twn X t→Sem.wp M Γ m Q E p t →
  Sem.wp M Γ m (fun a p' s'=>∃ t',s'=un X t'∧Twn X t'∧Q a p' t') (fun e p' s'=>∃ t',s'=un X t'∧Twn X t'∧E e p' t') p (un X t):=by
 induction m with
 | pure a=>exact fun Q E p t T h=>⟨t,rfl,T,h⟩
 | raise e=>exact fun Q E p t T h=>⟨t,rfl,T,h⟩
 | unsupported _=>exact fun Q E p t T h=>h
 | finish _=>exact fun Q E p t T h=>h
 | rule _ k ih=>exact fun Q E p t T h=>ih () Q E p t T h
 | «at» p' k ih=>exact fun Q E p t T h=>ih () Q E p' t T h
 | load a _ k ih=>exact fun Q E p t T ⟨o,ho,h⟩=>⟨o,ho,ih o Q E p t T h⟩
 | update a _ f k ih=>exact fun Q E p t T h=>⟨h.1,ih () Q E p { t with heap:=t.heap.update a f } T h.2⟩
 | loadIfAlive a k ih=>exact fun Q E p t T h=>ih _ Q E p t T h
 | point _ k ih=>exact fun Q E p t T h=>ih () Q E p t T h
 | register _ _=>exact fun Q E p t T h=>h
 | alloc o k ih=>exact fun Q E p t T h=>ih _ Q E p { t with heap:=t.heap.push o } T h
 | fresh k ih=>exact fun Q E p t T h=>ih _ Q E p { t with toks:=t.toks + 1 } T h
 | ask k ih=>exact fun Q E p t T h=>ih _ Q E p t T h
 | choose src m k ih=>exact fun Q E p t T h=>⟨h.1,ih _ Q E p { t with drawn:=t.drawn.bump src } T h.2⟩
 | os q _ k ih=>exact fun Q E p t T h=>ih _ Q E p { t with os:=(Os.step t.os q).1 } T h
 | call c hd _ _ k ih =>
   intro Q E p t T ⟨r,t1,hr,h⟩
   have q1:=Zgz hr rfl T
   exact⟨r,_,q1.1,ih r Q E p t1 q1.2.1 h⟩
 | handled own k ih=>exact fun Q E p t T h=>ih _ Q E p t T h
 | genState g k ih =>
   intro Q E p t T ⟨st,hs,h⟩
   cases hx:X g with
   | none=>exact⟨st,Twn.same hx hs,ih _ Q E p t T h⟩
   | some x =>
     obtain⟨h1,h2⟩:=T.2 g x hx
     rw[h2]at hs
     cases hs
     rw[Zka]at h
     exact⟨x,by rw[Zlp,h2,hx]; rfl,ih _ Q E p t T h⟩
 | newGen c k ih =>
   intro Q E p t T h
   have:=ih _ Q E p _ (Twn.push T (y:=.fresh c) trivial) h
   rw[Zlq T]at this
   rw[Sem.wp,Zlo]
   exact this
 | resume g r _ k ih =>
   intro Q E p t T ⟨res,t1,hw,h⟩
   have q:=ZkA hw T
   exact⟨res,_,q.1,ih res Q E p t1 q.2 h⟩
 | yield _ _ _ _=>exact fun Q E p t T h=>h
 | stack k ih=>exact fun Q E p t T h=>ih _ Q E p t T h
 | fork _ _=>exact fun Q E p t T h=>h
 | thread k ih=>exact fun Q E p t T h=>ih _ Q E p t T h
 | await _ _ _ _ _=>exact fun Q E p t T h=>h
def Zg5(s:YJ):Nat→Option GenState:=fun i=>match s.gens[i]? with
 | some (.suspended k l c p fs cl)=>some (.suspended k l c p fs cl)
 | _=>none
def psn(s:YJ):YJ:={ s with gens:=s.gens.map stk }
theorem ZhI{s:YJ}{i:Nat}{x:GenState}(h:Zg5 s i=some x):s.gens[i]? = some x∧Slp x:=by
 unfold Zg5 at h
 split at h
 ·cases h; exact⟨by assumption,trivial⟩
 ·cases h
theorem Zp6{s:YJ}{i:Nat}{x:GenState}(h:s.gens[i]? = some x)(hs:Slp x):Zg5 s i=some x:=by
 unfold Zg5
 rw[h]
 cases x <;> first | rfl | exact hs.elim
theorem Zoa{s:YJ}{i:Nat}{x:GenState}(h:s.gens[i]? = some x)(hs:Zg5 s i=none):stk x=x:=by
 unfold Zg5 at hs
 rw[h]at hs
 cases x <;> first | rfl | cases hs
theorem Zob(s:YJ):Twn (Zg5 s) (psn s):=by
 refine⟨fun i y hy=>?_,fun i x hx=>?_⟩
 ·have hy:(s.gens.map stk)[i]? = some y:=hy
  rw[Array.getElem?_map,Option.map_eq_some_iff]at hy
  obtain⟨z,_,rfl⟩:=hy
  exact Zn7 z
 ·obtain⟨h1,h2⟩:=ZhI hx
  refine⟨h2,?_⟩
  show(s.gens.map stk)[i]? = _
  rw[Array.getElem?_map,h1]
  rfl
theorem Zp7(s:YJ):un (Zg5 s) (psn s)=s:=by
 obtain⟨hp,gs,d,tk,o⟩:=s
 refine Zn9 ?_
 apply Array.ext_getElem?
 intro i
 rw[Array.getElem?_mapIdx]
 show((gs.map stk)[i]?).map _=_
 rw[Array.getElem?_map]
 cases h:gs[i]? with
 | none=>rfl
 | some x =>
   show some ((Zg5 ⟨hp,gs,d,tk,o⟩ i).getD (stk x))=some x
   cases hx:Zg5 ⟨hp,gs,d,tk,o⟩ i with
   | none =>
     show some (stk x)=some x
     rw[Zoa h hx]
   | some y =>
     obtain⟨h1,_⟩:=ZhI hx
     have h1:gs[i]? = some y:=h1
     rw[h]at h1
     exact h1.symm
theorem Zmr{s:YJ}(h:AllBare s.gens):AllBare (psn s).gens:=fun y hy=>by
 obtain⟨x,hx,rfl⟩:=Array.mem_map.mp hy
 have:=h x hx
 cases x <;> first | rfl | exact this
theorem Zoc{s t:YJ}(hs:AllBare s.gens)(h:AllBare t.gens):AllBare (un (Zg5 s) t).gens:=fun y hy=>by
 obtain⟨i,hi⟩:=Array.mem_iff_getElem?.mp hy
 rw[Zlp,Option.map_eq_some_iff]at hi
 obtain⟨z,hz,rfl⟩:=hi
 cases hx:Zg5 s i with
 | none=>exact h z (Array.mem_of_getElem? hz)
 | some x=>exact hs x (Array.mem_of_getElem? (ZhI hx).1)
theorem Zlr{α : Type}{A:Around}{m:Sem α}{Q : α→YJ→Prop}{E:YI→YJ→Prop}{s:YJ}(h:wpAny M A m Q E (psn s)) :
  wpAny M A m (fun a s'=>(∀ i x,Zg5 s i=some x→s'.gens[i]? = some x)∧∃ t,s'=un (Zg5 s) t∧Q a t) (fun e s'=>(∀ i x,Zg5 s i=some x→s'.gens[i]? = some x)∧∃ t,s'=un (Zg5 s) t∧E e t) s:=fun Γ p hΓ=>by
 have:=Zn_ (X:=Zg5 s) m _ _ p (psn s) (Zob s) (h Γ p hΓ)
 rw[Zp7]at this
 have k:∀ {t:YJ},Twn (Zg5 s) t→∀ i x,Zg5 s i=some x→(un (Zg5 s) t).gens[i]? = some x:=fun {t} T i x hx=>by
  rw[Zlp,(T.2 i x hx).2,hx]
  rfl
 exact Sem.wp_mono M Γ m (fun a p' s' ⟨t,e,T,q⟩=>by subst e; exact⟨k T,t,rfl,q⟩) (fun a p' s' ⟨t,e,T,q⟩=>by subst e; exact⟨k T,t,rfl,q⟩) p s this
end
end M
namespace M
open PySem PyProof.Rows L2 GenW
def SgX(M:Model)(A:Around)(c:Code)(t:Sem PySem.Fin)(fs:List Frame)(s:YJ)(F:End→YJ→Prop):Prop :=
 ∀ Γ p,Γ.code=c→Γ.Woken A→∃ e s',Runs M Γ p t fs s e s'∧e.quiet=true∧F e s'
section
variable {M:Model} {A:Around} {c:Code} {fs:List Frame} {s:YJ} {F:End→YJ→Prop}
theorem ZhJ{α : Type}{m:Sem α}{K : α→Sem PySem.Fin}{J:YI→Sem PySem.Fin}{gd lv}
  (h:wpAny M (A.over c fs) m (fun a s'=>SgX M A c (K a) fs s' F) (fun x s'=>SgX M A c (J x) fs s' F) s):SgX M A c (m.wrap K J gd lv) fs s F:=by
 rintro Γ p rfl hΓ
 obtain⟨e,s',h1,h2,h3⟩:=runs_wrap_of_wp (Φ:=fun e s'=>e.quiet=true∧F e s') K J gd lv m (h (Γ.over fs) p (hΓ.over fs)) (fun a p' s' h'=>h' Γ p' rfl hΓ) (fun x p' s' h'=>h' Γ p' rfl hΓ)
 exact⟨e,s',h1,h2,h3⟩
theorem Zb9{α β : Type}{m:Sem α}{f : α→Sem β}{K : β→Sem PySem.Fin}{J:YI→Sem PySem.Fin}{gd lv}
  (h:wpAny M (A.over c fs) m (fun a s'=>SgX M A c ((f a).wrap K J gd lv) fs s' F) (fun x s'=>SgX M A c (J x) fs s' F) s):SgX M A c ((m >>= f).wrap K J gd lv) fs s F:=by
 rw[Sem.bind_eq_wrap',Sem.wrap_wrap]
 exact ZhJ h
theorem Zp8{p':Pos}{k:Unit→Sem PySem.Fin}(h:SgX M A c (k ()) fs s F):SgX M A c (.at p' k) fs s F :=
 ZhJ (m:=standAt p') (K:=k) (J:=.raise) (gd:=id) (lv:=id) (wpAny_standAt h)
theorem Zms{l:List YI}{k:Unit→Sem PySem.Fin}(h:SgX M A c (k ()) fs s F):SgX M A c (.point l k) fs s F :=
 ZhJ (m:=point) (K:=k) (J:=.raise) (gd:=id) (lv:=fun _=>l) (wpAny_point h)
theorem Zod{c':Code}{h g l}{k:Result→Sem PySem.Fin}(hc:∀ p,SgX M A c' (M.den c') (.ret k h g l c p [] :: fs) s F):SgX M A c (.call c' h g l k) fs s F:=by
 rintro Γ p rfl hΓ
 obtain⟨e,s',hr,he⟩:=hc p (Γ.goto c') p rfl (hΓ.goto c')
 exact⟨e,s',runs_call_seg hr,he⟩
theorem Zls{k h g l c₁ p₁ kp}(r:Result)(hk:SgX M A c₁ (k r) fs s F):SgX M A c (leafOf r) (.ret k h g l c₁ p₁ kp :: fs) s F:=by
 rintro Γ p rfl hΓ
 obtain⟨e,s',hr,he⟩:=hk (Γ.goto c₁) p₁ rfl (hΓ.goto c₁)
 exact⟨e,s',Runs.pop r hr,he⟩
theorem ZhK{c':Code}(hq:c'.quiet=true)(hc:SgX M A c' (M.den c') fs s F):SgX M A c (.pure (.again c')) fs s F:=by
 rintro Γ p rfl hΓ
 obtain⟨e,s',hr,he⟩:=hc (Γ.goto c') p rfl (hΓ.goto c')
 exact⟨e,s',Runs.head (c₁:=c') (fun _ _ x=>.again hq x) hr,he⟩
theorem Zp9(r:Result)(h:F (.ret r) s):SgX M A c (leafOf r) [] s F:=by
 rintro Γ p rfl _
 exact⟨.ret r,s,Runs.leaf r,rfl,h⟩
theorem Zmt{v g l}{k:Resume→Sem PySem.Fin}(hfs:splitAtGen fs=none)(hg:g=false)(hfg:fs.any Frame.guarded=false)(h:∀ p,F (.susp v g l k c p fs) s):SgX M A c (.yield v g l k) fs s F:=by
 rintro Γ p rfl _
 exact⟨_,s,Runs.yield' fs hfs,by simp[End.quiet,hg,hfg],h p⟩
def GoX(M:Model)(A:Around)(s:YJ)(F:End→YJ→Prop):GenState→Prop
 | .fresh c=>SgX M A c (M.den c) [] s F
 | .suspended k _ c _ fs _=>SgX M A c (k (.send .none)) fs s F
 | _=>False
theorem ZhL{E:YI→YJ→Prop}{g:Nat}{gs:GenState}{l:List YI}{α : Type}{k:GenResult→Sem α}{Q : α→YJ→Prop}(hg:s.gens[g]? = some gs)(hgo:GoX M A (s.setGen g .running) F gs)
  (hF:∀ e s₁,e.genState.bare=true→s.gens.size ≤ s₁.gens.size→F e s₁→wpAny M A (k e.result) Q E (s₁.setGen g e.genState)):wpAny M A (.resume g (.send .none) l k) Q E s:=by
 intro Γ p hΓ
 rw[Sem.wp_resume]
 have hB:∀ c,(Γ.wake c p).Woken A:=fun c=>hΓ.wake c p
 cases gs with
 | fresh c =>
   obtain⟨e,s1,hr,hq,hf⟩:=hgo (Γ.wake c p) p rfl (hB c)
   exact⟨_,_,by unfold Wakes; rw[hg]; exact⟨e,s1,hr,hq,rfl,rfl⟩,hF e s1 (End.bare_of_quiet hq) (by have:=runs_gsz hr; rw[setGen_size]at this; exact this) hf Γ p hΓ⟩
 | suspended k₀ l₀ c₀ p₀ fs₀ cl =>
   obtain⟨e,s1,hr,hq,hf⟩:=hgo (Γ.wake c₀ p) p₀ rfl (hB c₀)
   exact⟨_,_,by unfold Wakes; rw[hg]; exact⟨e,s1,hr,hq,rfl,rfl⟩,hF e s1 (End.bare_of_quiet hq) (by have:=runs_gsz hr; rw[setGen_size]at this; exact this) hf Γ p hΓ⟩
 | running=>exact hgo.elim
 | finished=>exact hgo.elim
end
section
variable {P:YG} {w:YH} {A:Around} {E:YI→YJ→Prop} {s:YJ} {F:End→YJ→Prop}
theorem ZiE{a:YF}{g:Nat}{gs:GenState}{Q:Option YI→YJ→Prop}(hh:A.handled=none)(hl:s.heap.NoLimit)(hroom:A.depth < recursionLimit)(hg:s.heap.IsGen a g)(hgs:s.gens[g]? = some gs)
  (hgo:GoX (model P w) A.in1 (s.setGen g .running) F gs) (hend:∀ r s₁,F (.ret r) s₁→r = .ok (.ret .none)∧∀ h',(∀ b o,s₁.heap.get? b=some o→h'.get? b=some o)→Q none { s₁.setGen g .finished with heap:=h' })
  (hy:∀ v b l k c p fs s₁,(End.susp v b l k c p fs).genState.bare=true→s.gens.size ≤ s₁.gens.size→F (.susp v b l k c p fs) s₁→Q (some v) (s₁.setGen g (End.susp v b l k c p fs).genState)):wpAny (model P w) A (pyNext (.ref a)) Q E s:=by
 unfold pyNext
 refine YD (wpAny_attempt (wpAny_callSpecial?_slot (name:=YP "__next__") hg.typeIs slot_gen_next
  (wpAny_call_entry slot_gen_next hg.typeIs entry_gen_next ?_ (args_gen_next _))))
 show wpAny _ A.in1 (Builtin.Generator.genWake (.ref a) (.send .none)) _ _ s
 unfold Builtin.Generator.genWake
 refine YD (wpAny_holding (wpAny_genNumber hg (YD (wpAny_genState hgs ?_))))
 cases gs with
 | running=>exact hgo.elim
 | finished=>exact hgo.elim
 | _ =>
   refine YD (wpAny_roomToWake hl hroom ?_)
   show wpAny _ A.in1 (.resume g (.send .none) [] _) _ _ s
   refine ZhL hgs hgo (fun e s₁ hb hz hf=>?_)
   cases e with
   | ret x =>
     obtain⟨rfl,hp⟩:=hend x s₁ hf
     show wpAny _ A.in1 (newExc (.type "StopIteration") [] >>= _) _ _ _
     refine YD ?_
     simp only[newExc,newTuple]
     refine YD (wpAny_newObj_type ?_ (by size_fits))
     refine YD (m:=firstArgMember _ _) (wpAny_of_eq (a:=Value.none) (by first | rfl | (simp only[firstArgMember]; rfl)) ?_)
     refine wpAny_newObj_type ?_ (by size_fits)
     simp only[raiseNew]
     refine YD (YD (wpAny_handled ?_))
     first | rw[show A.in1.handled=none from hh] | rw[hh]
     refine wpAny_throw ?_
     refine YD (wpAny_isInstance (T := "StopIteration") (b:=true) ⟨_,YO _ rfl,rfl⟩ isSubtype_stop ?_)
     exact YL (hp _ fun b o hb=>YN _ (YN _ hb))
   | susp v g₀ l₀ k₀ c₀ p₀ fs₀=>exact YL ⟨v,rfl,YL (hy v g₀ l₀ k₀ c₀ p₀ fs₀ s₁ hb hz hf)⟩
theorem Zhr{target:Expr}{it:YI}{body:List YK}{env:Env}{fs:List Frame}
  (h:wpAny (model P w) (A.over (.forLoop target it body [] env) fs) (pyNext it) (fun r s₁=>match r with
   | none=>SgX (model P w) A (.block [] env) (leafOf (.ok .next)) fs s₁ F
   | some v=>wpAny (model P w) (A.over (.forLoop target it body [] env) fs) (letOwnedTupleGo target it v) (fun _ s₁'=>wpAny (model P w) (A.over (.forLoop target it body [] env) fs) (assign target env v) (fun _ s₂ =>
     SgX (model P w) A (.forLoop target it body [] env) ((execs body env).wrap (fun f=>match f with
      | .next | .cont=>.pure (.again (.forLoop target it body [] env))
      | .brk=>.pure (.done .next)
      | .ret v=>.pure (.done (.ret v))) (fun e=>(do noteFrame e env; theTreesLotGoes e:Sem Unit).wrap (fun _=>.raise e) .raise id id) id id) fs s₂ F) (fun _ _=>False) s₁') (fun _ _=>False) s₁) (fun _ _=>False) s) :
  SgX (model P w) A (.forLoop target it body [] env) ((model P w).den (.forLoop target it body [] env)) fs s F:=by
 show SgX _ A _ ((forTurn target it body [] env).onRaise (fun x=>do noteFrame x env; theTreesLotGoes x)) fs s F
 unfold forTurn
 rw[Sem.onRaise_eq_wrap]
 refine Zb9 (wpAny_standAt ?_)
 refine Zb9 (wpAny_onRaise (wpAny_mono h (fun r s1 h1=>?_) fun _ _ z=>z.elim))
 cases r with
 | none =>
   refine ZhK rfl ?_
   show SgX _ A _ (do return PySem.Fin.done (← (execs [] env).onRaise (fun x=>do noteFrame x env; theTreesLotGoes x))) fs s1 F
   exact h1
 | some v =>
   refine Zb9 (wpAny_mono h1 (fun _ s2 h2=>?_) fun _ _ z=>z.elim)
   refine Zb9 (wpAny_mono h2 (fun _ s3 h3=>?_) fun _ _ z=>z.elim)
   rw[Sem.bind_eq_wrap',Sem.wrap_wrap]
   rw[Sem.wrap_congr (execs body env) _ _ (K':=fun f=>match f with
       | .next | .cont=>.pure (.again (.forLoop target it body [] env))
       | .brk=>.pure (.done .next)
       | .ret v=>.pure (.done (.ret v))) (H':=(fun e=>(do noteFrame e env; theTreesLotGoes e:Sem Unit).wrap (fun _=>.raise e) .raise id id))
     (fun f=>by cases f <;> rfl)
     (fun e=>by first | exact Sem.bind_eq_wrap _ _ | (show(do noteFrame e env; theTreesLotGoes e:Sem Unit).bind (fun _=>.raise e)=_; rw[Sem.bind_eq_wrap]))]
   exact h3
theorem Zno{c:Code}{target iter:Expr}{body:List YK}{env:Env}{pos:Pos}{fs:List Frame}{K:Flow→Sem PySem.Fin}{J:YI→Sem PySem.Fin}{gd:Bool→Bool}{lv:List YI→List YI}
  (h:wpAny (model P w) (A.over c fs) (eval iter env) (fun x s₁=>wpAny (model P w) (A.over c fs) (pyIter x) (fun it s₂=>∀ p,
   SgX (model P w) A (.forLoop target it body [] env) ((model P w).den (.forLoop target it body [] env))
    (.ret (fun r=>((match r with | .ok f=>(.pure f:Sem Flow) | .error e=>.raise e).onRaise (cameBack env)).wrap K J gd lv) none (gd false) (lv []) c p [] :: fs) s₂ F) (fun _ _=>False) s₁) (fun _ _=>False) s)
  (hs:∀ x,foldedSetIterable iter env x=pure x:=by intro _; rfl):SgX (model P w) A c ((exec (.For target iter body [] pos) env).wrap K J gd lv) fs s F:=by
 rw[exec_For]
 refine Zb9 (wpAny_standAt ?_)
 refine Zb9 (wpAny_mono h (fun x s1 h1=>?_) fun _ _ z=>z.elim)
 refine Zb9 (wpAny_of_eq (hs x) ?_)
 refine Zb9 (wpAny_standAt ?_)
 refine Zb9 (wpAny_holding (wpAny_mono h1 (fun it s2 h2=>?_) fun _ _ z=>z.elim))
 exact Zod h2
end
end M
namespace M
open PySem PySem.Spec PyProof.Rows L2 GenW
def ZfY(pins:List (YF×Obj))(s:YJ)(H:Hp):Prop:=∀ p∈pins,s.heap.get? p.1=some p.2∧H p.1=none
def Zoe(g:Nat)(o:Obj):Prop:=o.cls = .type "generator" ∧ (∃ nm qn,o.data = .fields #[.int g 0,nm,qn])∧o.slots = #[]
structure Bk(P:YG)(w:YH)(n0:Nat)(outer:List Env)(s:YJ)(H:Hp)(s':YJ)(H':Hp):Prop where
 os:s'.os=s.os
 bare:AllBare s'.gens
 hok:HOk P w H' s'.heap
 un:∃ ch,(∀ b∈ch,n0 ≤ b)∧Un (frs outer) ch H H' s.heap s'.heap
structure Zp_(a:YF)(g n0:Nat)(pins:List (YF×Obj)):Prop where
 gen:∃ o,(a,o)∈pins∧Zoe g o
 up:∀ p∈pins,n0 ≤ p.1∧∀ v,p.2.data≠.cell v
def Zjk(H0:Hp)(F0:List YF)(N:Hp→Prop):Prop:=∀ H H2 S,N H→Zb S H H2→(∀ b∈S,b∉F0∧H0 b≠none)→N H2
def Zq4(P:YG)(w:YH)(K:YC)(mg:Str→Option YI)(base:Heap)(A:Around)(outer:List Env)(n0:Nat)(H0:Hp)(F0:List YF)(a:YF)(g:Nat):List PyData→List (YF×Obj)→(Hp→Prop)→GenState→Prop
 | [],pins,N,gs=>∀ s H,Env0 P w K mg base A outer s H→ZfY pins s H→N H→g < s.gens.size→GoX (model P w) A.in1 (s.setGen g .running) (fun e s'=>e = .ret (.ok (.ret .none))∧∃ H',Zb [] H H'∧Bk P w n0 outer s H s' H') gs
 | z :: zs,pins,N,gs=>∀ s H,Env0 P w K mg base A outer s H→ZfY pins s H→N H→g < s.gens.size→GoX (model P w) A.in1 (s.setGen g .running) (fun e s'=>∃ v b l k c p fs x H' pins' N',e = .susp v b l k c p fs∧RelV x v∧Im K H' x z∧Zb [] H H' ∧
     Bk P w n0 outer s H s' H'∧ZfY pins' s' H'∧Zp_ a g n0 pins'∧N' H'∧Zjk H0 F0 N'∧Zq4 P w K mg base A outer n0 H0 F0 a g zs pins' N' e.genState) gs
structure Zof(X:Cx)(n0:Nat)(H0:Hp)(F0:List YF)(a:YF)(g:Nat)(zs:List PyData)(pins pG:List (YF×Obj))(σ:L2.St)(H:Hp)(s:YJ):Prop where
 I:Inv X (pins++pG) σ H s
 pg:Zp_ a g n0 pG
 gs:∃ gs N,s.gens[g]? = some gs∧N H∧Zjk H0 F0 N∧Zq4 X.prog X.w X.K X.mg X.base X.A X.stack n0 H0 F0 a g zs pG N gs
structure Low(X:Cx)(n0:Nat)(pins:List (YF×Obj)):Prop where
 s0:X.s_0.heap.objs.size ≤ n0
 loc:X.env.locals < n0
 cell:∀ x c,X.env.cells.lookup x=some c→c < n0
 pin:∀ p∈X.pn++pins,p.1 < n0
section
variable {X:Cx} {pins pG:List (YF×Obj)} {σ:L2.St} {H H' H0:Hp} {s s' t:YJ} {n0 g:Nat} {a:YF} {F0:List YF} {z:PyData} {zs:List PyData}
theorem Inv.gensOf(I:Inv X pins σ H s){G:Array GenState}(hb:AllBare G):Inv X pins σ H { s with gens:=G }:=⟨I.ok,I.os,hb,I.base,I.loc,I.cell,I.free,I.freeC,I.pin,I.hok,I.len⟩
theorem Zqa(I:Inv X pins σ H t)(hb:AllBare s.gens):Inv X pins σ H (un (Zg5 s) t):=Inv.gensOf I (Zoc hb I.bare)
theorem Zog(I:Inv X pins σ H s):Inv X pins σ H (psn s):=Inv.gensOf I (Zmr I.bare)
theorem Zoe.is{h:Heap}{o:Obj}(q:Zoe g o)(e:h.get? a=some o):h.IsGen a g:=by
 obtain⟨h1,⟨nm,qn,h2⟩,h3⟩:=q
 exact⟨o,nm,qn,e,h1,h2,h3⟩
theorem Znp(L:Low X n0 pins)(I:Inv X (pins++pG) σ H s)(b:Bk X.prog X.w n0 X.stack s H s' H'):Inv X pins σ H' s':=by
 obtain⟨ch,h1,u⟩:=b.un
 have I0:Inv X pins σ H s:=I.unpinned
 have no:∀ {c d:YF},d < n0→c∈ch→c≠d:=fun {c d} h hc e=>absurd (Nat.lt_of_lt_of_le (by rw[← e]at h; exact h) (h1 c hc)) (Nat.lt_irrefl _)
 exact I0.call' (ch:=ch) b.os u b.hok b.bare fun c hc=>⟨.inr (Nat.le_trans L.s0 (h1 c hc)),no L.loc hc,fun x c' e1 e2=>no (L.cell x c' e1) hc e2.symm,fun p hp e=>no (L.pin p hp) hc e.symm⟩
theorem Zlt{gs:GenState}(h:s.gens[g]? = some gs):g < s.gens.size:=(Array.getElem?_eq_some_iff.mp h).1
theorem Zoh(L:Low X n0 pins)(I:Inv X pins σ H s):∀ b∈X.fs,b < n0:=fun b hb=>by
 obtain⟨_,o,e,_⟩:=I.ok.funs.mem hb
 exact Nat.lt_of_lt_of_le (Heap.lt_size e) L.s0
theorem Zlu(L:Low X n0 pins)(I:Inv X pins σ H s)(pg:Zp_ a g n0 pG)(ok:ZfY pG s H):Inv X (pins++pG) σ H s:=by
 refine I.pins_of fun p hp=>?_
 rcases Yh.mp hp with h | h
 ·exact I.pin p (Yp _ h)
 ·have h1:=pg.up p h
  have no:∀ {d:YF},d < n0→p.1≠d:=fun {d} h e=>absurd (Nat.lt_of_lt_of_le (by rw[← e]at h; exact h) h1.1) (Nat.lt_irrefl _)
  exact⟨(ok p h).1,(ok p h).2,no L.loc,fun e=>no (Zoh L I _ e) rfl,h1.2⟩
theorem ZhM(I:Inv X (pins++pG) σ H s):ZfY pG s H:=fun p hp=>by
 obtain⟨h1,h2,_⟩:=I.pin p (Yp _ (Yp _ hp))
 exact⟨h1,h2⟩
theorem Zmu{E:YI→YJ→Prop}{Q:Option YI→YJ→Prop}(hd:X.A.depth < recursionLimit)(hc:X.calm=true)(L:Low X n0 pins)(x:Zof X n0 H0 F0 a g (z :: zs) pins pG σ H s)
  (q:∀ v y H' pG' s',RelV y v→Im X.K H' y z→Zb [] H H'→Zof X n0 H0 F0 a g zs pins pG' σ H' s'→(∃ gs,s'.gens[g]? = some gs∧Slp gs)→Q (some v) s'):wpAny (model X.prog X.w) X.A (pyNext (.ref a)) Q E s:=by
 obtain⟨I,pg,gs,N,hg,hN,st,asl⟩:=x
 obtain⟨go,hgo,hq⟩:=pg.gen
 have ok:=ZhM I
 have hl:=Zlt hg
 refine ZiE (I.ok.hd hc) I.nolimit hd (hq.is (ok _ hgo).1) hg (asl s H I.env0 ok hN hl) (fun r s1 h=>?_) fun v b l k c p fs s1 hb hz h=>?_
 ·obtain⟨_,_,_,_,_,_,_,_,_,_,_,e,_⟩:=h
  cases e
 ·obtain⟨v',b',l',k',c',p',fs',y,H',pG',N',e,ry,iy,kk,bk,ok',pg',hN',st',asl'⟩:=h
  cases e
  have I1:Inv X pins σ H' s1:=Znp L I bk
  have I2:Inv X (pins++pG') σ H' s1:=Zlu L I1 pg' ok'
  refine q v y H' pG' _ ry iy kk ⟨Inv.gensOf I2 (allBare_setGen I2.bare hb),pg',_,N',setGen_at (by omega),hN',st',asl'⟩ ⟨_,setGen_at (by omega),trivial⟩
theorem Zmv{E:YI→YJ→Prop}{Q:Option YI→YJ→Prop}(hd:X.A.depth < recursionLimit)(hc:X.calm=true)(L:Low X n0 pins)(x:Zof X n0 H0 F0 a g [] pins pG σ H s)
  (q:∀ H' s',Zb [] H H'→Inv X pins σ H' s'→Q none s'):wpAny (model X.prog X.w) X.A (pyNext (.ref a)) Q E s:=by
 obtain⟨I,pg,gs,N,hg,hN,st,asl⟩:=x
 obtain⟨go,hgo,hq⟩:=pg.gen
 have ok:=ZhM I
 have hl:=Zlt hg
 refine ZiE (I.ok.hd hc) I.nolimit hd (hq.is (ok _ hgo).1) hg (asl s H I.env0 ok hN hl) (fun r s1 h=>?_) fun v b l k c p fs s1 hb hz h=>?_
 ·obtain⟨e,H',kk,bk⟩:=h
  cases e
  refine⟨rfl,fun h' hk=>q H' _ kk ?_⟩
  have I1:Inv X pins σ H' s1:=Znp L I bk
  have I2:Inv X pins σ H' { s1 with heap:=h' }:=I1.kept (t':=s1.toks) hk
  exact Inv.gensOf (s:={ s1 with heap:=h' }) I2 (allBare_setGen I1.bare rfl)
 ·obtain⟨e,_⟩:=h
  cases e
theorem Zhs{α : Type}{m:Sem α}{Q : α→YJ→Prop}(hx:∀ e s',¬ X.xe e s')(x:Inv X (pins++pG) σ H s)(n:∃ gs,s.gens[g]? = some gs∧Slp gs)(h:∀ t,Inv X (pins++pG) σ H t→wpAny (model X.prog X.w) X.A m Q X.xe t) :
  wpAny (model X.prog X.w) X.A m (fun b s'=>(∀ gs,s.gens[g]? = some gs→s'.gens[g]? = some gs)∧∃ t,(∀ pins' σ' H',Inv X pins' σ' H' t→Inv X pins' σ' H' s')∧Q b t) X.xe s:=by
 obtain⟨gs,hg,hs⟩:=n
 refine wpAny_mono (Zlr (h (psn s) (Zog x))) (fun b s' ⟨h1,t,e,q⟩=>?_) fun e s' ⟨_,t,_,q⟩=>(hx e t q).elim
 refine⟨fun gs' hg'=>?_,t,fun pins' σ' H' I=>?_,q⟩
 ·rw[hg]at hg'
  cases hg'
  exact h1 g gs (Zp6 hg hs)
 ·rw[e]
  exact Zqa I x.bare
end
abbrev TIG:=L2.St→Hp→(List PyData→List YF→Hp→Prop)→Prop
structure PIG(X:Cx)(iter:Expr)(wi:TIG):Prop where
 run:∀ (pins:List (YF×Obj)) (s:YJ) (σ:L2.St) (H:Hp) (R:List PyData→List YF→Hp→Prop),Inv X pins σ H s→wi σ H R →
  wpAny (model X.prog X.w) X.A (eval iter X.env) (fun v s1=>∃ a g n0 zs F0 H1 pG,v = .ref a∧R zs F0 H1∧Low X n0 pins∧Zof X n0 H1 F0 a g zs pins pG σ H1 s1) X.xe s
def Zr_(zs:List PyData)(F0:List YF)(K:YC)(g:TG)(tb:TS)(D:Ends)(σ:L2.St)(H:Hp):Prop :=
 ∃ (S:List YF) (Pv:Nat→L2.St→Hp→Prop),(∀ b∈S,H b≠none∧b∉F0)∧Pv 0 σ H ∧
   (∀ i z x σ1 H1 H2,zs[i]? = some z→Pv i σ1 H1→Zb [] H1 H2→Im K H2 x z→g x σ1 H2 fun σ2 H3=>tb { D with nx:=fun σ4 H4=>Zb S H2 H4∧Pv (i + 1) σ4 H4,ct:=fun σ4 H4=>Zb S H2 H4∧Pv (i + 1) σ4 H4,bk:=D.nx } σ2 H3) ∧
   (∀ σ1 H1 H2,Pv zs.length σ1 H1→Zb [] H1 H2→D.nx σ1 H2)
def Zqb(K:YC)(wi:TIG)(g:TG)(tb:TS):TS:=fun D σ H=>wi σ H fun zs F0 H1=>Zr_ zs F0 K g tb D σ H1
theorem Zoi{X:Cx}{tg iter:Expr}{body:List YK}{wi:TIG}{g:TG}{tb:TS}{pos:Pos}(hx:∀ e s',¬ X.xe e s')(hd:X.A.depth < recursionLimit)(hc:X.calm=true)(hi:PIG X iter wi)(hg:PG X tg g)(hb:PSs X body tb)
  (hs:∀ x,foldedSetIterable iter X.env x=pure x:=by intro _; rfl):PS X (.For tg iter body [] pos) (Zqb X.K wi g tb):=by
 refine⟨fun pins s σ H D I h=>?_⟩
 have hp:PassesOwn (model X.prog X.w) X.A X.env X.xe:=fun e s' h=>(hx e s' h).elim
 refine wpAny_For (thn (hi.run pins s σ H _ I h) fun v s1 h1=>?_) hs
 obtain⟨a,gn,n0,zs,F0,H1,pG,rfl,⟨S,Pv,hS,p0,step,fin⟩,L,x⟩:=h1
 obtain⟨go,hgo,hq⟩:=x.pg.gen
 refine wpAny_pyIter_gen (hq.is (ZhM x.I _ hgo).1) ?_
 have oS:∀ b∈S,b∉F0∧H1 b≠none:=fun b hb=>⟨(hS b hb).2,(hS b hb).1⟩
 refine codeAny_forLoop_any (fun n s'=>∃ i σ' H' pG',n=zs.length - i∧i ≤ zs.length∧Zof X n0 H1 F0 a gn (zs.drop i) pins pG' σ' H' s'∧Pv i σ' H') ?_ zs.length ⟨0,σ,H1,pG,rfl,YR _,x,p0⟩
 rintro n s3 ⟨i,σ3,H3,pG3,rfl,hi3,x3,p3⟩
 by_cases hlt:i < zs.length
 ·have e:zs.drop i=zs[i] :: zs.drop (i + 1):=(List.getElem_cons_drop hlt).symm
  rw[e]at x3
  refine wpAny_passesOwn hp (Zmu hd hc L x3 fun u y H4 pG4 s4 ry iy kk x4 sl=>?_)
  have hz:zs[i]? = some zs[i]:=Yw hlt
  obtain⟨go4,hgo4,hq4⟩:=x4.pg.gen
  have e4:=(ZhM x4.I _ hgo4).1
  obtain⟨q1,⟨nm,qn,q2⟩,q3⟩:=hq4
  refine go_of e4 q1 q2 (by decide +kernel) ?_
  have body:=step i zs[i] y σ3 H3 H4 hz p3 kk iy
  obtain⟨gs,hgs,hsl⟩:=sl
  obtain⟨gs',N,hgs',hN,st,asl⟩:=x4.gs
  rw[hgs]at hgs'
  cases hgs'
  refine wpAny_passesOwn hp (wpAny_mono (Zhs hx x4.I ⟨gs,hgs,hsl⟩ fun t I4=>hg.run _ t σ3 H4 y u _ I4 ry body) (fun _ s6 h6=>?_) fun _ _ z=>z)
  obtain⟨g6,t6,un6,σ6,H6,I6t,q6⟩:=h6
  have I6:=un6 _ _ _ I6t
  have hg6:=g6 gs hgs
  refine wpAny_passesOwn hp (wpAny_mono (Zhs hx I6 ⟨gs,hg6,hsl⟩ fun t I=>hb.run _ t σ6 H6 _ I q6) (fun f s7 h7=>?_) fun _ _ z=>z)
  obtain⟨g7,t7,un7,q7⟩:=h7
  have hg7:=g7 gs hg6
  have again:∀ {σ7:L2.St} {H7:Hp},Inv X (pins++pG4) σ7 H7 s7→Zb S H4 H7→Pv (i + 1) σ7 H7→∃ m,m < zs.length - i∧∃ j σ' H' pG',m=zs.length - j∧j ≤ zs.length∧Zof X n0 H1 F0 a gn (zs.drop j) pins pG' σ' H' s7∧Pv j σ' H':=fun {σ7 H7} I7 k7 p7 =>
   ⟨zs.length - (i + 1),by omega,i + 1,σ7,H7,pG4,rfl,hlt,⟨I7,x4.pg,gs,N,hg7,st H4 H7 S hN k7 oS,st,asl⟩,p7⟩
  cases f with
  | next=>obtain⟨σ7,H7,I7,k7,p7⟩:=q7; exact again (un7 _ _ _ I7) k7 p7
  | cont=>obtain⟨σ7,H7,I7,k7,p7⟩:=q7; exact again (un7 _ _ _ I7) k7 p7
  | brk=>obtain⟨σ7,H7,I7,q7⟩:=q7; exact⟨σ7,H7,(un7 _ _ _ I7).unpinned,q7⟩
  | ret v=>obtain⟨x7,σ7,H7,I7,r7,q7⟩:=q7; exact⟨x7,σ7,H7,(un7 _ _ _ I7).unpinned,r7,q7⟩
 ·have e:i=zs.length:=by omega
  subst e
  rw[List.drop_length]at x3
  refine wpAny_passesOwn hp (Zmv hd hc L x3 fun H4 s4 kk I4=>?_)
  exact wpAny_execs_nil ⟨σ3,H4,I4,fin σ3 H3 H4 p3 kk⟩
def Zb6(L:Nat)(h:Heap):Heap:={ h with objs:=h.objs.extract 0 L }
theorem Zfm{L b:Nat}{h:Heap}:(Zb6 L h).get? b=if b < L then h.get? b else none:=by
 unfold Heap.get? Zb6
 simp only[Array.getElem?_extract,Nat.sub_zero,Nat.zero_add]
 by_cases h1:b < L
 ·rw[if_pos h1]
  by_cases h2:b < h.objs.size
  ·rw[if_pos (by omega)]
  ·rw[if_neg (by omega),Array.getElem?_eq_none (by omega)]
 ·rw[if_neg h1,if_neg (by omega)]
theorem ZkB{L b:Nat}{h:Heap}{o:Obj}(e:(Zb6 L h).get? b=some o):b < L∧h.get? b=some o:=by
 rw[Zfm]at e
 split at e
 ·exact⟨by assumption,e⟩
 ·cases e
theorem Zd4{L:Nat}{h:Heap}(hl:L ≤ h.objs.size):(Zb6 L h).objs.size=L:=by
 show(h.objs.extract 0 L).size=L
 rw[Array.size_extract]
 omega
theorem Zht{L:Nat}{h base:Heap}:∀ {l:List Env},h.FunFrames base l→(∀ b∈frs l,b < L)→(Zb6 L h).FunFrames base l
 | [],_,_=>trivial
 | env :: l,⟨hk,⟨b,o,hf,hn,ho,hd⟩,hr⟩,hb=>by
   have e:frs (env :: l)=b :: frs l:=by unfold frs; rw[List.filterMap_cons,hf]
   rw[e]at hb
   exact⟨hk,⟨b,o,hf,hn,by rw[Zfm,if_pos (hb b Yg)]; exact ho,hd⟩,Zht hr fun c hc=>hb c (Yf _ hc)⟩
def rb(X:Cx)(s:YJ)(H:Hp):Cx:={ X with s_0:={ s with heap:=Zb6 X.env.locals s.heap },H_0:=H,ex:=[],pn:=[] }
structure Sta(X:Cx):Prop where
 mod:Mod X.K X.mg X.base
 kind:X.env.scope.kind = .function
 glob:X.env.globals=mainGlobals
 blt:X.env.builtins=builtinsNs
 nc:∀ x,X.env.cells.lookup x=none
 nk:∀ x,¬ (X.env.kindOf x=some .cell∨X.env.kindOf x=some .free)
 hd:X.A.handled=none
 calm:X.calm=true
 frames:X.A.frames=some X.stack
 stk:X.stack=X.env :: X.outer
 frm:X.env.frame=some X.env.locals
 bsz:X.base.objs.size ≤ X.env.locals
 low:∀ b∈frs X.outer,b < X.env.locals
 nx:∀ e s',¬ X.xe e s'
def Zoj(X:Cx)(σ:L2.St)(s:YJ):Prop:=∃ m,s.heap.Ns X.env.locals m∧∀ (i:Nat) (x:Str) (v:V),X.N[i]? = some x→σ[i]? = some (some v)→Vis X.env.scope x→∃ u,RelV v u∧Look X.env s.heap m x u
section
variable {X:Cx} {A:Around} {pins:List (YF×Obj)} {σ σ':L2.St} {H H' H2:Hp} {s s' s2:YJ} {n0 g:Nat} {a:YF}
theorem Zsa(S:Sta X)(e:Env0 X.prog X.w X.K X.mg X.base A X.outer s H)(l:Zoj X σ s)(f:H X.env.locals=none)(len : σ.length=X.N.length):Inv (rb X s H) [] σ H s:=by
 obtain⟨m,hn,hl⟩:=id l
 have lt:=hn.lt
 have tr:(Zb6 X.env.locals s.heap).objs.size=X.env.locals:=Zd4 (Nat.le_of_lt lt)
 refine⟨⟨S.mod,S.kind,S.glob,S.blt,Nat.le_of_eq tr,fun x y c h=>?_,fun x h=>(S.nk x h).elim,fun x c _ h=>?_,fun _=>S.hd,S.frames,.inr ⟨S.stk,S.frm⟩,fun b z=>(nomatch z),fun b o h=>?_,?_,fun b o _ z=>(nomatch z),fun b z=>(nomatch z),?_,e.frf⟩,
  rfl,e.bare,?_,l,fun x c h=>?_,f,fun x c h=>?_,fun p hp=>?_,e.hok,len⟩
 ·have h:X.env.cells.lookup x=some c:=h
  rw[S.nc]at h; cases h
 ·have h:X.env.cells.lookup x=some c:=h
  rw[S.nc]at h; cases h
 ·obtain⟨h1,h2⟩:=e.bs b o h
  refine⟨?_,h2⟩
  show(Zb6 X.env.locals s.heap).get? b=some o
  rw[Zfm,if_pos (Nat.lt_of_lt_of_le (Heap.lt_size h) S.bsz)]
  exact h1
 ·show X.base.objs.size ≤ (Zb6 X.env.locals s.heap).objs.size
  rw[tr]; exact S.bsz
 ·exact Zht e.funs S.low
 ·exact Un.kept fun b o h=>(ZkB h).2
 ·have h:X.env.cells.lookup x=some c:=h
  rw[S.nc]at h; cases h
 ·have h:X.env.cells.lookup x=some c:=h
  rw[S.nc]at h; cases h
 ·exact(Ya (show p∈([]:List (YF×Obj))++[]from hp)).elim
theorem Zsb(S:Sta X)(I:Inv (rb X s H) pins σ H' s'):Env0 X.prog X.w X.K X.mg X.base { X.A with frames:=some X.outer } X.outer s' H':=by
 refine⟨rfl,S.mod,I.bs,?_,I.funs,fun b hb=>?_,I.hok,I.bare⟩
 ·have h:X.env.locals < s'.heap.objs.size:=I.lt
  exact Nat.le_trans S.bsz (Nat.le_of_lt h)
 ·exact I.stkFree b (by
   show b∈frs X.stack
   rw[S.stk]
   unfold frs
   rw[List.filterMap_cons,S.frm]
   exact Yf _ hb)
theorem rebase(S:Sta X)(I:Inv (rb X s H) pins σ H' s'):Inv (rb X s' H') [] σ H' s':=Zsa S (Zsb S I) I.loc I.free I.len
def ZgA(o:Obj):Bool:=match o.data with
 | .cell _=>false
 | _=>true
def ZiF(L:Nat)(ch:List YF)(s:YJ)(H:Hp):List (YF×Obj):=(List.range s.heap.objs.size).filterMap fun b=>match s.heap.get? b with
 | some o=>if L < b∧b∉ch∧(H b).isNone∧ZgA o=true then some (b,o)else none
 | none=>none
def ZcL(o:Obj):Prop:=∀ v,o.data≠.cell v
theorem ZfB{o:Obj}:ZgA o=true↔ZcL o:=by
 unfold ZcL ZgA
 cases o.data <;> simp
theorem ZdD{L:Nat}{ch:List YF}{b:YF}{o:Obj}:(b,o)∈ZiF L ch s H↔L < b∧b∉ch∧H b=none∧ZcL o∧s.heap.get? b=some o:=by
 unfold ZiF
 rw[List.mem_filterMap]
 constructor
 ·rintro⟨c,hc,e⟩
  cases h:s.heap.get? c with
  | none=>rw[h]at e; cases e
  | some q =>
    rw[h]at e
    dsimp only at e
    split at e
    ·cases e
     rename_i z
     exact⟨z.1,z.2.1,by simpa using z.2.2.1,ZfB.mp z.2.2.2,h⟩
    ·cases e
 ·rintro⟨h1,h2,h3,h4,h5⟩
  refine⟨b,List.mem_range.mpr (Heap.lt_size h5),?_⟩
  rw[h5]
  dsimp only
  rw[if_pos ⟨h1,h2,by rw[h3]; rfl,ZfB.mpr h4⟩]
theorem ZgB(S:Sta X)(I:Inv (rb X s H) [] σ H s)(ch:List YF):Inv (rb X s H) (ZiF X.env.locals ch s H) σ H s:=by
 refine I.pins_of fun p hp=>?_
 obtain⟨b,o⟩:=p
 obtain⟨h1,h2,h3,h4,h5⟩:=ZdD.mp hp
 refine⟨h5,h3,Nat.ne_of_gt h1,fun z=>absurd (S.low b z) (Nat.not_lt.mpr (Nat.le_of_lt h1)),h4⟩
structure Leg(X:Cx)(ch:List YF)(s:YJ)(H:Hp)(s':YJ)(H':Hp):Prop where
 os:s'.os=s.os
 keep:∀ b o,s.heap.get? b=some o→H b=none→b∉frs X.outer→b≠X.env.locals→b∉ch→(b < X.env.locals∨ZcL o)→s'.heap.get? b=some o
 slot:∀ b o,s.heap.get? b=some o→H b=none→b∈frs X.outer→∃ sl,s'.heap.get? b=some { o with slots:=sl }
 free:∀ b o,s.heap.get? b=some o→H b=none→b≠X.env.locals→b∉ch→(b < X.env.locals∨ZcL o)→H' b=none
 tups:∀ b xs,H b=some (.tup xs)→H' b=some (.tup xs)
 frzs:∀ b o u,H b=some (.frz o u)→H' b=some (.frz o u)
 tbls:∀ b ps,H b=some (.tbl ps)→∃ more,H' b=some (.tbl (ps++more))
 there:∀ b o,s.heap.get? b=some o→b≠X.env.locals→b∉ch→(b < X.env.locals∨ZcL o∨H b≠none)→∃ o',s'.heap.get? b=some o'∧(b < X.env.locals∨ZcL o'∨H' b≠none)
theorem ZiG(S:Sta X){ch:List YF}(I:Inv (rb X s H) (ZiF X.env.locals ch s H) σ' H' s')(dom:∀ b,H b≠none→H' b≠none):Leg X ch s H s' H':=by
 have B:=I.base
 have pin:∀ {b o},X.env.locals < b→b∉ch→H b=none→ZcL o→s.heap.get? b=some o→s'.heap.get? b=some o∧H' b=none:=fun {b o} h1 h2 h3 h4 h5=>by
  obtain⟨q1,q2,_⟩:=I.pin (b,o) (Yp _ (ZdD.mpr ⟨h1,h2,h3,h4,h5⟩))
  exact⟨q1,q2⟩
 have tr:∀ {b o},b < X.env.locals→s.heap.get? b=some o→(Zb6 X.env.locals s.heap).get? b=some o:=fun {b o} h e=>by rw[Zfm,if_pos h]; exact e
 have ne:∀ b:YF,b∉(rb X s H).ex:=fun b z=>nomatch z
 refine⟨I.os,fun b o e n hf hL hc hd=>?_,fun b o e n hf=>?_,fun b o e n hL hc hd=>?_,B.tups,B.frzs,B.tbls,fun b o e hL hc hd=>?_⟩
 ·by_cases hb:b < X.env.locals
  ·exact B.keep b o (tr hb e) n hf (ne b)
  ·exact(pin (Nat.lt_of_le_of_ne (Nat.le_of_not_lt hb) (Ne.symm hL)) hc n (hd.resolve_left hb) e).1
 ·exact B.slot b o (tr (S.low b hf) e) n hf (ne b)
 ·by_cases hb:b < X.env.locals
  ·exact B.free b o (tr hb e) n (ne b)
  ·exact(pin (Nat.lt_of_le_of_ne (Nat.le_of_not_lt hb) (Ne.symm hL)) hc n (hd.resolve_left hb) e).2
 ·by_cases hb:b < X.env.locals
  ·obtain⟨o',e'⟩:=B.there b o (tr hb e) (ne b)
   exact⟨o',e',.inl hb⟩
  ·cases hH:H b with
   | none =>
     rcases hd.resolve_left hb with q | q
     ·exact⟨o,(pin (Nat.lt_of_le_of_ne (Nat.le_of_not_lt hb) (Ne.symm hL)) hc hH q e).1,.inr (.inl q)⟩
     ·exact(q hH).elim
   | some u =>
     have h':=dom b (by rw[hH]; exact fun z=>nomatch z)
     cases hH':H' b with
     | none=>exact(h' hH').elim
     | some u' =>
       cases e':s'.heap.get? b with
       | none =>
         have:=I.hok.gone e'
         rw[hH']at this
         cases this
       | some o'=>exact⟨o',rfl,.inr (.inr fun z=>nomatch z)⟩
theorem Leg.trans(S:Sta X){c c1 c2:List YF}(a:Leg X c1 s H s' H')(b:Leg X c2 s' H' s2 H2)(h1:∀ x∈c1,x∈c)(h2:∀ x∈c2,x∈c∨s.heap.get? x=none)(hc:∀ x∈c,X.env.locals < x):Leg X c s H s2 H2:=by
 have n1:∀ {x:YF},x∉c→x∉c1:=fun {x} h z=>h (h1 x z)
 have n2:∀ {x:YF} {o:Obj},s.heap.get? x=some o→x∉c→x∉c2:=fun {x o} e h z=>by
  rcases h2 x z with q | q
  ·exact h q
  ·rw[e]at q; cases q
 have nl:∀ {x:YF},x < X.env.locals→x∉c:=fun {x} h z=>absurd (hc x z) (Nat.not_lt.mpr (Nat.le_of_lt h))
 refine⟨b.os.trans a.os,fun x o e n hf hL hx hd=>?_,fun x o e n hf=>?_,fun x o e n hL hx hd=>?_,fun x xs e=>b.tups x xs (a.tups x xs e),fun x o u e=>b.frzs x o u (a.frzs x o u e),fun x ps e=>?_,fun x o e hL hx hd=>?_⟩
 ·exact b.keep x o (a.keep x o e n hf hL (n1 hx) hd) (a.free x o e n hL (n1 hx) hd) hf hL (n2 e hx) hd
 ·have lt:=S.low x hf
  obtain⟨sl,e1⟩:=a.slot x o e n hf
  obtain⟨sl2,e2⟩:=b.slot x _ e1 (a.free x o e n (YS lt) (n1 (nl lt)) (.inl lt)) hf
  exact⟨sl2,e2⟩
 ·have f1:=a.free x o e n hL (n1 hx) hd
  by_cases hf:x∈frs X.outer
  ·have lt:=S.low x hf
   obtain⟨sl,e1⟩:=a.slot x o e n hf
   exact b.free x _ e1 f1 hL (n2 e hx) (.inl lt)
  ·exact b.free x o (a.keep x o e n hf hL (n1 hx) hd) f1 hL (n2 e hx) hd
 ·obtain⟨m1,e1⟩:=a.tbls x ps e
  obtain⟨m2,e2⟩:=b.tbls x _ e1
  exact⟨m1++m2,by rw[e2,Array.append_assoc]⟩
 ·obtain⟨o1,e1,d1⟩:=a.there x o e hL (n1 hx) hd
  exact b.there x o1 e1 hL (n2 e hx) d1
def Zs1(L:Nat)(s:YJ):List YF:=(List.range s.heap.objs.size).filter fun b=>match s.heap.get? b with
 | some o=>decide (L ≤ b) && !ZgA o
 | none=>false
theorem Leg.bk{c:List YF}(l:Leg X c s H s' H')(hc:∀ x∈c,X.env.locals < x)(hb:AllBare s'.gens)(hk:HOk X.prog X.w H' s'.heap):Bk X.prog X.w X.env.locals X.outer s H s' H':=by
 refine⟨l.os,hb,hk,X.env.locals :: c++Zs1 X.env.locals s,fun b hb=>?_,?_⟩
 ·rcases Yh.mp hb with hb | hb
  ·rcases Yn.mp hb with rfl | hb
   ·exact YQ _
   ·exact Nat.le_of_lt (hc b hb)
  ·obtain⟨_,h⟩:=List.mem_filter.mp hb
   cases e:s.heap.get? b with
   | none=>rw[e]at h; cases h
   | some o =>
     rw[e]at h
     exact of_decide_eq_true (Bool.and_eq_true_iff.mp h).1
 ·have split:∀ {b:YF} {o:Obj},s.heap.get? b=some o→b∉X.env.locals :: c++Zs1 X.env.locals s→b≠X.env.locals∧b∉c∧(b < X.env.locals∨ZcL o):=fun {b o} e h=>by
   rw[Yh,Yn,not_or,not_or]at h
   refine⟨h.1.1,h.1.2,?_⟩
   by_cases hl:b < X.env.locals
   ·exact .inl hl
   ·refine .inr (ZfB.mp ?_)
    cases hz:ZgA o with
    | true=>rfl
    | false =>
      exfalso
      refine h.2 (List.mem_filter.mpr ⟨List.mem_range.mpr (Heap.lt_size e),?_⟩)
      rw[e]
      dsimp only
      rw[hz,decide_eq_true (Nat.le_of_not_lt hl)]
      rfl
  refine⟨fun b o e n hf hx=>?_,fun b o e n hf _=>l.slot b o e n hf,fun b o e n hx=>?_,fun b o e hx=>?_,l.tups,l.frzs,l.tbls⟩
  ·obtain⟨q1,q2,q3⟩:=split e hx
   exact l.keep b o e n hf q1 q2 q3
  ·obtain⟨q1,q2,q3⟩:=split e hx
   exact l.free b o e n q1 q2 q3
  ·obtain⟨q1,q2,q3⟩:=split e hx
   obtain⟨o',e',_⟩:=l.there b o e q1 q2 (q3.imp id .inl)
   exact⟨o',e'⟩
end
abbrev SI(X:Cx)(σ:L2.St)(H:Hp)(s:YJ):Prop:=Inv (rb X s H) [] σ H s
section
variable {X:Cx} {σ:L2.St} {H H':Hp} {s s':YJ} {tg iter e:Expr} {wi:TI} {te:TE} {g:TG} {x:V} {u:YI}
def ZkC(X:Cx)(s:YJ)(H:Hp)(s':YJ)(H':Hp):Prop:=∃ c,(∀ x∈c,X.env.locals < x)∧Leg X c s H s' H'
theorem Leg.toE{c:List YF}(l:Leg X c s H s' H')(h:∀ x∈c,X.env.locals < x):ZkC X s H s' H':=⟨c,h,l⟩
theorem Leg.e0(l:Leg X [] s H s' H'):ZkC X s H s' H':=⟨[],fun _ z=>(nomatch z),l⟩
theorem ZkC.trans(S:Sta X){s2:YJ}{H2:Hp}(a:ZkC X s H s' H')(b:ZkC X s' H' s2 H2):ZkC X s H s2 H2:=by
 obtain⟨c1,h1,l1⟩:=a
 obtain⟨c2,h2,l2⟩:=b
 refine⟨c1++c2,fun x hx=>(Yh.mp hx).elim (h1 x) (h2 x),l1.trans S l2 (fun x hx=>Yo _ hx) (fun x hx=>.inl (Yp _ hx)) fun x hx=>(Yh.mp hx).elim (h1 x) (h2 x)⟩
theorem Leg.refl(S:Sta X):Leg X [] s H s H :=
 ⟨rfl,fun _ _ e _ _ _ _ _=>e,fun b o e _ _=>⟨o.slots,e⟩,fun _ _ _ n _ _ _=>n,fun _ _ e=>e,fun _ _ _ e=>e,fun _ ps e=>⟨#[],by rw[e]; simp⟩,fun b o e _ _ d=>⟨o,e,d⟩⟩
theorem ZkC.refl(S:Sta X):ZkC X s H s H:=(Leg.refl S).e0
structure Own(X:Cx)(fp:List YF)(H:Hp):Prop where
 up:∀ b∈fp,X.env.locals < b∧H b=none
theorem ZgC(k:Zb [] H H'):∀ b,H b≠none→H' b≠none:=fun b h=>by
 cases e:H b with
 | none=>exact(h e).elim
 | some u =>
   obtain⟨u',e'⟩:=k.dom b u e
   rw[e']
   exact fun z=>nomatch z
theorem Leg.tn{P:YG}{w:YH}{K:YC}{J:It}{fp ch:List YF}{it:YF}{tn:Nat→Heap→Prop}{j:Nat}(S:Sta X)(T:Turn P w K tg J fp it tn)(o:Own X fp H)(d:∀ b∈fp,b∉ch)(l:Leg X ch s H s' H')(h:tn j s.heap):tn j s'.heap∧Own X fp H':=by
 have nf:∀ b∈fp,b∉frs X.outer:=fun b hb z=>absurd (S.low b z) (Nat.not_lt.mpr (Nat.le_of_lt (o.up b hb).1))
 refine⟨T.keep _ _ _ h fun b hb ob e=>?_,⟨fun b hb=>⟨(o.up b hb).1,?_⟩⟩⟩
 ·obtain⟨o',e',nc⟩:=T.obj _ _ h b hb
  rw[e]at e'
  cases e'
  exact l.keep b ob e (o.up b hb).2 (nf b hb) (Nat.ne_of_gt (o.up b hb).1) (d b hb) (.inr nc)
 ·obtain⟨o',e',nc⟩:=T.obj _ _ h b hb
  exact l.free b o' e' (o.up b hb).2 (Nat.ne_of_gt (o.up b hb).1) (d b hb) (.inr nc)
theorem Zqc(S:Sta X)(I:SI X σ H s)(he:PE (rb X s H) e te){q:VK}(h:te σ H fun x H'=>Zb [] H H'∧q x H') :
  wpAny (model X.prog X.w) X.A (eval e X.env) (fun v s'=>∃ x H',SI X σ H' s'∧Leg X [] s H s' H'∧RelV x v∧Zb [] H H'∧q x H') (fun _ _=>False) s:=by
 refine wpAny_mono (he.run _ s σ H _ (ZgB S I []) h) (fun v s' ⟨x,H',I',r,k,hq⟩=>?_) fun e' s' z=>S.nx _ _ z
 exact⟨x,H',rebase S I',ZiG S I' (ZgC k),r,k,hq⟩
theorem Znq(S:Sta X)(I:SI X σ H s)(hg:PG (rb X s H) tg g)(r:RelV x u){N:L2.St→Hp→Prop}(h:g x σ H fun σ' H'=>Zb [] H H'∧N σ' H') :
  wpAny (model X.prog X.w) X.A (assign tg X.env u) (fun _ s'=>∃ σ' H',SI X σ' H' s'∧Leg X [] s H s' H'∧Zb [] H H'∧N σ' H') (fun _ _=>False) s:=by
 refine wpAny_mono (hg.run _ s σ H x u _ (ZgB S I []) r h) (fun v s' ⟨σ',H',I',k,hq⟩=>?_) fun e' s' z=>S.nx _ _ z
 exact⟨σ',H',rebase S I',ZiG S I' (ZgC k),k,hq⟩
theorem Znr(S:Sta X)(I:SI X σ H s)(hi:PI (rb X s H) tg iter wi){R:It→Hp→Prop}(h:wi σ H fun J H'=>Zb [] H H'∧R J H') :
  wpAny (model X.prog X.w) X.A (eval iter X.env) (fun v s1=>wpAny (model X.prog X.w) X.A (pyIter v) (fun itv s2=>∃ it fp tn J H',itv = .ref it∧SI X σ H' s2∧Leg X [] s H s2 H'∧Turn X.prog X.w X.K tg J fp it tn∧tn 0 s2.heap∧Own X fp H' ∧
   (∀ (b:YF) (o:Obj),s.heap.get? b=some o→X.env.locals < b→H b=none→ZcL o→b∉fp)∧Zb [] H H'∧R J H') (fun _ _=>False) s1) (fun _ _=>False) s:=by
 refine wpAny_mono (hi.run _ s σ H _ (ZgB S I []) h) (fun v s1 h1=>wpAny_mono h1 (fun itv s2 h2=>?_) fun e' s' z=>S.nx _ _ z) fun e' s' z=>S.nx _ _ z
 obtain⟨it,fp,tn,J,H',rfl,I',T,t0,fo,k,hr⟩:=h2
 refine⟨it,fp,tn,J,H',rfl,rebase S I',ZiG S I' (ZgC k),T,t0,⟨fun b hb=>?_⟩,fun b o e1 e2 e3 e4 hb=>?_,k,hr⟩
 ·obtain⟨f0,f1,f2,f3,f4,f5⟩:=fo b hb
  refine⟨?_,f0⟩
  rcases f3 with z | z
  ·exact(nomatch z)
  ·have tr:(Zb6 X.env.locals s.heap).objs.size=X.env.locals:=Zd4 (Nat.le_of_lt I.lt)
   have z:(Zb6 X.env.locals s.heap).objs.size ≤ b:=z
   rw[tr]at z
   exact Nat.lt_of_le_of_ne z fun q=>f1 q.symm
 ·obtain⟨f0,f1,f2,f3,f4,f5⟩:=fo b hb
  exact f5 (b,o) (Yp _ (ZdD.mpr ⟨e2,fun z=>(nomatch z),e3,e4,e1⟩)) rfl
theorem Zkc(S:Sta X)(I:SI X σ H s){J:It}{fp:List YF}{it:YF}{tn:Nat→Heap→Prop}{j:Nat}(T:Turn X.prog X.w X.K tg J fp it tn)(o:Own X fp H)(t:tn j s.heap)(go:J.go j H)(hy:∀ x H',J.yld j H x H'→Zb [] H H') :
  wpAny (model X.prog X.w) X.A (pyNext (.ref it)) (fun r s1=>∃ u,r=some u∧wpAny (model X.prog X.w) X.A (letOwnedTupleGo tg (.ref it) u) (fun _ s2=>∃ x H',SI X σ H' s2∧Leg X fp s H s2 H'∧RelV x u∧J.yld j H x H'∧tn (j + 1) s2.heap∧Own X fp H') (fun _ _=>False) s1) (fun _ _=>False) s:=by
 have fo:∀ b∈fp,FpOk (rb X s H) (ZiF X.env.locals fp s H) H b:=fun b hb=>by
  obtain⟨h1,h2⟩:=o.up b hb
  have tr:(Zb6 X.env.locals s.heap).objs.size=X.env.locals:=Zd4 (Nat.le_of_lt I.lt)
  refine⟨h2,Nat.ne_of_gt h1,fun z=>absurd (S.low b z) (Nat.not_lt.mpr (Nat.le_of_lt h1)),.inr ?_,fun x c e=>?_,fun p hp z=>?_⟩
  ·show(Zb6 X.env.locals s.heap).objs.size ≤ b
   rw[tr]; exact Nat.le_of_lt h1
  ·have e:X.env.cells.lookup x=some c:=e
   rw[S.nc]at e; cases e
  ·obtain⟨c,oc⟩:=p
   have z:c=b:=z
   subst z
   exact(ZdD.mp (show(c,oc)∈ZiF X.env.locals fp s H from hp)).2.1 hb
 refine wpAny_mono (T.item (rb X s H) rfl rfl rfl S.calm j _ s σ H (fun _ _=>False) (ZgB S I fp) fo t go) (fun r s1 ⟨u,hr,h1⟩=>⟨u,hr,wpAny_mono h1 (fun _ s2 h2=>?_) fun _ _ z=>z⟩) fun _ _ z=>z
 obtain⟨x,H',I',r,y,t',f'⟩:=h2
 exact⟨x,H',rebase S I',ZiG S I' (ZgC (hy x H' y)),r,y,t',⟨fun b hb=>⟨(o.up b hb).1,f' b hb⟩⟩⟩
theorem Zkd(S:Sta X)(I:SI X σ H s){J:It}{fp:List YF}{it:YF}{tn:Nat→Heap→Prop}{j:Nat}(T:Turn X.prog X.w X.K tg J fp it tn)(o:Own X fp H)(t:tn j s.heap)(st:J.stop j H) :
  wpAny (model X.prog X.w) X.A (pyNext (.ref it)) (fun r s1=>r=none∧SI X σ H s1∧Leg X fp s H s1 H) (fun _ _=>False) s:=by
 have fo:∀ b∈fp,FpOk (rb X s H) (ZiF X.env.locals fp s H) H b:=fun b hb=>by
  obtain⟨h1,h2⟩:=o.up b hb
  have tr:(Zb6 X.env.locals s.heap).objs.size=X.env.locals:=Zd4 (Nat.le_of_lt I.lt)
  refine⟨h2,Nat.ne_of_gt h1,fun z=>absurd (S.low b z) (Nat.not_lt.mpr (Nat.le_of_lt h1)),.inr ?_,fun x c e=>?_,fun p hp z=>?_⟩
  ·show(Zb6 X.env.locals s.heap).objs.size ≤ b
   rw[tr]; exact Nat.le_of_lt h1
  ·have e:X.env.cells.lookup x=some c:=e
   rw[S.nc]at e; cases e
  ·obtain⟨c,oc⟩:=p
   have z:c=b:=z
   subst z
   exact(ZdD.mp (show(c,oc)∈ZiF X.env.locals fp s H from hp)).2.1 hb
 refine wpAny_mono (T.done (rb X s H) rfl rfl rfl S.calm j _ s σ H (fun _ _=>False) (ZgB S I fp) fo t st) (fun r s1 ⟨hr,I'⟩=>?_) fun _ _ z=>z
 exact⟨hr,rebase S I',ZiG S I' fun _ h=>h⟩
theorem ZhN{Md:Model}{A:Around}{c:Code}{fs:List Frame}{F:End→YJ→Prop}{env:Env}{K:Flow→Sem PySem.Fin}{J:YI→Sem PySem.Fin}{gd:Bool→Bool}{lv:List YI→List YI}{ypos pos:Pos}(hfs:splitAtGen fs=none)(hgd:gd false=false)(hfg:fs.any Frame.guarded=false)
  (h:wpAny Md (A.over c fs) (eval e env) (fun v s'=>∀ b l kk p,(∀ s'' F'',SgX Md A c (K .next) fs s'' F''→SgX Md A c (kk (.send .none)) fs s'' F'')→F (.susp v b l kk c p fs) s') (fun _ _=>False) s) (hco:env.scope.isCoroutine=false:=by rfl) (hi:interactive env=false:=by rfl) :
  SgX Md A c ((exec (.Expr (.Yield (some e) ypos) pos) env).wrap K J gd lv) fs s F:=by
 rw[exec_Expr env _ pos hi rfl]
 show SgX Md A c (.at pos fun _=>((eval e env >>= fun v=>(standAt ypos >>= fun _=>yieldOut env v)) >>= fun x=>dropValue (.Yield (some e) ypos) pos x).wrap K J gd lv) fs s F
 have hy:∀ v,yieldOut env v=yieldValue v:=fun v=>by simp only[yieldOut,hco,Bool.false_eq_true,if_false]
 simp only[hy]
 refine Zp8 ?_
 rw[Sem.bind_eq_wrap',Sem.bind_eq_wrap',Sem.wrap_wrap,Sem.wrap_wrap]
 refine ZhJ (wpAny_mono h (fun v s' h'=>?_) fun _ _ z=>z.elim)
 refine Zp8 (Zmt hfs hgd hfg fun p=>h' _ _ _ p fun s'' F'' hx=>?_)
 exact hx
end
end M
namespace M
open PySem PySem.Spec PyProof.Rows L2 SlX
theorem ZgD:bootBuiltins "sorted" = some (.builtin "sorted"):=by decide +kernel
def rIsN:R2:=fun x y H Q=>y = .non∧Q (.bl (decide (x = .non))) H
def rNotN:R2:=fun x y H Q=>y = .non∧Q (.bl (!decide (x = .non))) H
theorem op_notN1{X:Cx}:OpR X (compareOp .IsNot) rNotN:=op_notN
theorem Zg6{x:V}{H:Hp}{Q:VK}:rIsN x .non H Q=Q (.bl (decide (x = .non))) H:=propext ⟨fun h=>h.2,fun h=>⟨rfl,h⟩⟩
theorem Zqd{x:V}{H:Hp}{Q:VK}:rNotN x .non H Q=Q (.bl (!decide (x = .non))) H:=propext ⟨fun h=>h.2,fun h=>⟨rfl,h⟩⟩
theorem Zqe:decide (V.non = .non)=true:=rfl
theorem Zqf{a:YF}:decide (V.ref a = .non)=false:=rfl
theorem Zqg{a:Str}:decide (V.str a = .non)=false:=rfl
theorem Zqh{a:Int}:decide (V.int a = .non)=false:=rfl
theorem Zqi{a:Bool}:decide (V.bl a = .non)=false:=rfl
def ZiH:List V→Hp→VK→Prop:=fun xs H Q=>∃ (a:YF) (kvs:List (Key×V)) (ks:List Str),xs=[.ref a]∧Rd H a (.dK kvs)∧kvs.map (·.1)=ks.map Sum.inr∧ks.length < 64∧∀ p H',H p=none→Zb [] H H'→H' p=some (.lst ((Zfh ks).map V.str))→Q (.ref p) H'
theorem ZhO{X:Cx}(hc:X.calm=true):CallR X (.builtin "sorted") ZiH:=by
 intro pins s σ H xs us Q I r h
 obtain⟨a,kvs,ks,ex,hd,hk,h64,q⟩:=h
 exact call_sortedD hc pins s σ H xs us Q I r ⟨a,kvs,ks,ex,hd,hk,h64,fun ys p pm so hp=>by
  rw[Zmp pm so]
  exact q p _ hp (Zb.new hp) Y_⟩
section
variable {K:YC} {σ:L2.St} {H:Hp} {Q:VK} {D:Ends} {S:List YF} {C a dx:YF}
theorem Zjl{d:YF}{m:List (Key×V)}{α : Type}{R:V→α→Prop}{P:List (Str×α)}(h:H d=some (.dK m))(r:Zc1 kS R m P)(l:P.length < 64)(q:∀ p H',H p=none→Zb [] H H'→H' p=some (.lst ((Zfh (P.map (·.1))).map V.str))→Q (.ref p) H'):ZiH [.ref d] H Q:=by
 refine⟨d,m,P.map (·.1),rfl,.inl h,?_,by simpa using l,q⟩
 rw[r.keys,Yx]
 rfl
def Zns(J:It)(g:TG)(tt:TT)(tk tv:TE)(vs:List Nat)(σ:L2.St)(H1:Hp)(Q:VK):Prop:=∀ D,H1 D=none→∃ W:Nat→Nat→Hp→Prop,(∃ m,W 0 m (upd H1 D (.dK [])))∧∀ i m H,W i m H →
 (J.stop i H∧Q (.ref D) H)∨(J.go i H∧∃ Nx:Hp→Prop,(∀ H',Nx H'→∃ m',m' < m∧W (i + 1) m' H')∧∀ x H',J.yld i H x H'→g x (wipe σ vs) H' fun σ2 H2=>wipe σ2 vs=wipe σ vs∧tt σ2 H2 fun b H3 =>
  if b=true then tk σ2 H3 fun y H4=>tv σ2 H4 fun z H5=>∃ kvs k,y=kV k∧H5 D=some (.dK kvs)∧kvs.length < YM∧Nx (upd H5 D (.dK (putK kvs k z)))else Nx H3)
theorem Zts{wi:TI}{g:TG}{tt:TT}{tk tv:TE}{vs:List Nat}:tDc wi g tt tk tv vs σ H Q=wi σ H fun J H1=>Zns J g tt tk tv vs σ H1 Q:=rfl
def Zs2(D:YF)(R:Hp→Prop)(y z:V)(H:Hp):Prop:=∃ kvs k,y=kV k∧H D=some (.dK kvs)∧kvs.length < YM∧R (upd H D (.dK (putK kvs k z)))
theorem Zs3{D:YF}{m:List (Key×V)}{n:Str}{z:V}{R:Hp→Prop}(h:H D=some (.dK m))(l:m.length < YM)(q:∀ H',Zb [D] H H'→H' D=some (.dK (putK m (kS n) z))→R H'):Zs2 D R (.str n) z H :=
 ⟨m,kS n,rfl,h,l,q _ (Zb.put h True.intro) Y_⟩
theorem Zlv{J:It}{xs:List V}{g:TG}{tt:TT}{tk tv:TE}{vs:List Nat}(w:Wk S J xs H)(Pv:YF→Nat→Hp→Prop)(hK:∀ D i H2,Pv D i H2→Zb S H H2)
  (h0:∀ D H2,H D=none→Zb [] H H2→H2 D=some (.dK [])→Pv D 0 H2)
  (hs:∀ D i H2 x H3,H D=none→xs[i]? = some x→Pv D i H2→Zb [] H2 H3→g x (wipe σ vs) H3 fun σ2 H4=>wipe σ2 vs=wipe σ vs∧tt σ2 H4 fun b H5 =>
   if b=true then tk σ2 H5 fun y H6=>tv σ2 H6 fun z H7=>Zs2 D (Pv D (i + 1)) y z H7 else Pv D (i + 1) H5)
  (hd:∀ D H2,H D=none→Pv D xs.length H2→Q (.ref D) H2):Zns J g tt tk tv vs σ H Q:=by
 intro D hD
 refine⟨fun i m H2=>m=xs.length - i∧i ≤ xs.length∧Pv D i H2,⟨xs.length,by simp,YR _,h0 D _ hD (Zb.new hD) Y_⟩,?_⟩
 rintro i m H2 ⟨rfl,hi,p⟩
 obtain⟨w1,w2,w3⟩:=w H2 (hK _ _ _ p)
 by_cases hlt:i < xs.length
 ·refine .inr ⟨w2 i hlt,Pv D (i + 1),fun H' p'=>⟨xs.length - (i + 1),by omega,rfl,hlt,p'⟩,fun x H3 y=>?_⟩
  obtain⟨e,k⟩:=w3 i x H3 hlt y
  exact hs D i H2 x H3 hD e p k
 ·have e:i=xs.length:=by omega
  subst e
  exact .inl ⟨w1,hd D H2 hD p⟩
theorem Zmw{vs:List (Option V)}(h:Slt H a C dx vs)(o:H dx=some (.own a)∨H dx=some (.xd []))(vs':List (Option V)):Zb [a,dx] H (slH H a C dx vs'):=by
 have ha:(H a=some (.ins C dx []))∨∃ φ,H a=some (.ext φ):=by
  rcases h with⟨h1,_⟩ | ⟨h1,_⟩
  ·exact .inl h1
  ·exact .inr ⟨_,h1⟩
 have z:∀ b v,b≠a→b≠dx→H b=some v→slH H a C dx vs' b=some v:=fun b v n1 n2 e=>by rw[slH_ne n1 n2]; exact e
 refine⟨fun b v n e=>?_,fun b xs e=>?_,fun b ob v e=>?_,fun b v e=>?_⟩
 ·simp only[Yn,Ya,or_false,not_or]at n
  exact z b v n.1 n.2 e
 ·refine z b _ (fun q=>?_) (fun q=>?_) e
  ·rw[q]at e; rcases ha with ha | ⟨φ,ha⟩ <;> (rw[ha]at e; cases e)
  ·rw[q]at e; rcases o with o | o <;> (rw[o]at e; cases e)
 ·refine z b _ (fun q=>?_) (fun q=>?_) e
  ·rw[q]at e; rcases ha with ha | ⟨φ,ha⟩ <;> (rw[ha]at e; cases e)
  ·rw[q]at e; rcases o with o | o <;> (rw[o]at e; cases e)
 ·by_cases q1:b=a
  ·rw[q1]; exact⟨_,Y_⟩
  ·by_cases q2:b=dx
   ·refine⟨.xd [],?_⟩
    unfold slH
    rw[upd_ne q1,q2,Y_]
   ·exact⟨v,z b v q1 q2 e⟩
theorem Zlw{K:YC}{p:YF}{vs:List (Option V)}{f:Str}{i:Nat}{y:V}{R:Hp→Prop}(h:Slt H a C dx vs)(o:H dx=some (.own a)∨H dx=some (.xd []))(ne:dx≠a)(c:SCls K C)(t:Slot1 K C f p i)
  (q:∀ H',Zb [a,dx] H H'→Slt H' a C dx (putS i y vs)→H' dx=some (.xd [])→R H'):∃ a' C' dx' p' vs' i',V.ref a = .ref a'∧Slt H a' C' dx' vs'∧SCls K C'∧Slot1 K C' f p' i'∧R (slH H a' C' dx' (putS i' y vs')) :=
 ⟨a,C,dx,p,vs,i,rfl,h,c,t,q _ (Zmw h o _) (slH_slt ne) (by unfold slH; rw[upd_ne ne,Y_])⟩
theorem Zsc{ta tv:TE}{f:Str}:sSl K ta tv f D σ H=tv σ H fun y H1=>ta σ H1 fun x H2=>∃ a C dx p vs i,x = .ref a∧Slt H2 a C dx vs∧SCls K C∧Slot1 K C f p i∧D.nx σ (slH H2 a C dx (putS i y vs)):=rfl
theorem Zsd{ta:TE}{f:Str}:tSl K ta f σ H Q=ta σ H fun x H1=>∃ a C dx p vs i v,x = .ref a∧Slt H1 a C dx vs∧SCls K C∧Slot1 K C f p i∧vs[i]? = some (some v)∧Q v H1:=rfl
theorem Slt.keep{H':Hp}{vs:List (Option V)}{b:HO}(h:Slt H a C dx vs)(k:Zb S H H')(n1:a∉S)(n2:dx∉S):Slt H' a C dx vs:=by
 rcases h with⟨h1,h2⟩ | ⟨h1,h2⟩
 ·exact .inl ⟨k.obj _ _ n1 h1,h2⟩
 ·exact .inr ⟨k.obj _ _ n1 h1,k.obj _ _ n2 h2⟩
theorem Zqj{sp:Sp}{E:XK}{t:TA}:tMake C sp [] E t σ H Q=t σ H fun vs H1=>∀ x dx,H1 x=none→H1 dx=none→dx≠x→sp (.ref x :: (vs++[])) (upd (upd H1 dx (.own x)) x (.ins C dx [])) (fun v H2=>v = .non∧Q (.ref x) H2) E:=rfl
end
end M
namespace M
open PySem PySem.W PySem.Spec PyProof.Rows L2
end M
namespace M
open PySem PySem.Spec PyProof.Rows L2 L2H SlX
section
variable {w:YH} {K:YC} {mg:Str→Option YI} {base:Heap} {fI C:YF} {fd:YE} {B newId i:String} {bmB:List YI}
theorem ZfC(D:Zmf PP K "UnknownModule.__init__" Zag fI C fd) (T:ZpG K C fI B newId i bmB ["module"]) (hs:mg "super" = none):Xn PP w K mg base CX0 (0 + 1) fI fd ["self", "module"] (Zir C ["module"]) :=
 ZnW ⟨rfl,rfl,rfl,by decide +kernel,rfl,by decide +kernel,by decide +kernel,by decide +kernel⟩ D T ⟨rfl,rfl,rfl,⟨_,rfl,rfl⟩,hs,by decide +kernel⟩ rfl (fun env=>⟨_,rfl⟩) rfl (by decide) (by decide)
theorem ZfD{P:YG}(D:Zmf P K "UnknownModule.__init__" Zag fI C fd) (nd:Zq0 K fI=true) (s:YJ) (u:YI) (ws:List YI) (hl:ws.length=(["module"]:List Str).length):BindsTo s fd ⟨[u],(["module"]:List Str).zip ws⟩ ((("self" : Str) :: ["module"]).zip (u :: ws)):=by
 obtain⟨oc,od,dV,kV,doc,pm,an,cdv,ct,osl,cc,cl,cld,csl,cda,ccl,cdd,vs,ccs,file,tf,rfl,lk,_⟩:=D.ex
 unfold Zq0 at nd
 rw[lk]at nd
 have nd:dV = .none:=of_decide_eq_true nd
 subst nd
 match ws,hl with
 | [a],_=>exact .of_eq rfl
end
end M
namespace M
open PySem L2
structure Drw(H:Hp)(h c:YF):Prop where
 ex:∃ (st ix:Int) (cells:List Int),H h=some (.lst [.int st,.ref c,.int ix])∧H c=some (.lst (cells.map V.int))∧0 ≤ st∧st < 2147483647∧0 ≤ ix∧cells.length ≤ 63
 ne:h≠c
theorem Drw.keep{H H':Hp}{h c:YF}(d:Drw H h c){S:List YF}(k:Zb S H H')(n1:h∉S)(n2:c∉S):Drw H' h c:=by
 obtain⟨st,ix,cells,h1,h2,r⟩:=d.ex
 exact⟨⟨st,ix,cells,k.obj _ _ n1 h1,k.obj _ _ n2 h2,r⟩,d.ne⟩
theorem Drw.k0{H H':Hp}{h c:YF}(d:Drw H h c)(k:Zb [] H H'):Drw H' h c:=d.keep k Ya Ya
def Zd5(K:YC)  : TS:=(Xb (Xm (tOp (rIx K) (tOp (rAdd K) (tOp (rIx K) (YU 0) (tC (.int 1))) (Zbi (YV (tC (.int 0)) Y1))) (tOp Zja (tCB Zfc (YV (tOp (rIx K) (YU 0) (tC (.int 2))) Y1)) (tCB rMax2 (YV (tC (.int 1)) (YV (tCB (rLen K) (YV (tOp (rIx K) (YU 0) (tC (.int 1))) Y1)) Y1))))) (Y6 2))
 (Xb (Xk (Xe (tOp ZsS (YU 2) (tOp ZnC (tC (.int 10)) (tC (.int 18))))) (Xb (Xm (tOp ZnB (YU 2) (YU 1)) (gSub (tOp (rIx K) (YU 0) (tC (.int 1))) (tOp Zja (tCB Zfc (YV (tOp (rIx K) (YU 0) (tC (.int 2))) Y1)) (tCB (rLen K) (YV (tOp (rIx K) (YU 0) (tC (.int 1))) Y1))) rSetL))
 (Xj (tOp Zja (tCB Zfc (YV (YU 2) Y1)) (YU 1)))) Xq)
 (Xb (Xm (tOp Zja (tCB Zfc (YV (tOp (rAdd K) (tOp (rAdd K) (tOp Zma (tOp (rIx K) (YU 0) (tC (.int 0))) (tC (.int 48271))) (tOp Zma (YU 2) (tC (.int 69621)))) (tC (.int 11))) Y1)) (tC (.int 2147483647))) (gSub (YU 0) (tC (.int 0)) rSetL))
 (Xb (Xm (tOp (rAdd K) (tOp (rIx K) (YU 0) (tC (.int 2))) (tC (.int 1))) (gSub (YU 0) (tC (.int 2)) rSetL))
 (Xj (tOp Zja (tCB Zfc (YV (tOp ZnB (tOp (rIx K) (YU 0) (tC (.int 0))) (tC (.int 7))) Y1)) (YU 1)))))))
def ZkD:List Str:=["_law_h", "_law_cap", "_law_cell"]
def Zd(K:YC):Sp:=fun vs H Q _=>∃ h c cap,vs=[.ref h,.int cap]∧Drw H h c∧0 < cap∧cap < 2 ^ 64∧∀ v H',0 ≤ v→v < cap→Zb [h,c] H H'→Drw H' h c→Q (.int v) H'
theorem ZiI{α : Type}{xs:List α}{i:Int}(h0 : 0 ≤ i)(h:i < xs.length):∃ v,xs[i.toNat]? = some v∧atI xs i=some v:=by
 have e:i=((i.toNat:Nat):Int):=by omega
 have hl:i.toNat < xs.length:=by omega
 refine⟨xs[i.toNat],by simp[hl],?_⟩
 conv=>lhs; rw[e]
 exact atI_nat (by simp[hl])
theorem ZhP{K:YC}(vs:List V)(H:Hp)(Q:VK)(E:XK)(h:Zd K vs H Q E):Zd5 K { nx:=fun _ H'=>Q .non H',rt:=Q } (start ZkD vs) H:=by
 obtain⟨h,c,cap,rfl,D,c0,c1,q⟩:=h
 show Zd5 K _ [some (.ref h),some (.int cap),none] H
 unfold Zd5
 have sl:=Z3
 obtain⟨st,ix,cells,h1,h2,hs0,hs1,hi0,hl⟩:=D.ex
 row_readAll go
 refine Zaz (SqL.of h1) rfl ?_
 refine Zbr (by row_readAll ln) fun p1 H1 hp1 k1 h3=>?_
 refine Zk3 (k1.obj _ _ Ya h2) h3 (by simp; omega) fun p2 H2 hp2 k2 h4=>?_
 have g1:=k2.obj _ _ Ya (k1.obj _ _ Ya h1)
 have g2:=k2.obj _ _ Ya (k1.obj _ _ Ya h2)
 refine Zaz (SqL.of g1) rfl ?_
 row_readAll go
 refine Zaz (SqL.of g1) rfl ?_
 refine Zj5 (SqL.of g2) ?_
 row_readAll go
 have em:∃ m:Int,(if ((List.map V.int cells).length:Int) > 1 then((List.map V.int cells).length:Int)else 1)=m∧0 < m∧m ≤ cells.length + 1∧(0 < cells.length→m=cells.length):=by
  refine⟨_,rfl,?_⟩
  simp only[Yb]
  split <;> omega
 obtain⟨m,em,m0,m1,m2⟩:=em
 rw[em]
 refine⟨m0,?_⟩
 have hr0:=Int.emod_nonneg ix (show m≠0 by omega)
 have hr1:=Int.emod_lt_of_pos ix m0
 have el:List.map V.int cells++[V.int 0]=(cells++[0]).map V.int:=by simp
 rw[el]at h4
 obtain⟨v,hv,ha⟩:=ZiI (xs:=(cells++[0]).map V.int) hr0 (by simp; omega)
 rw[Ym]at hv
 cases hz:(cells++[0])[(ix % m).toNat]? with
 | none=>rw[hz]at hv; cases hv
 | some z =>
 rw[hz]at hv
 cases hv
 refine Zaz (SqL.of h4) ha ?_
 row_readAll go
 refine⟨⟨by decide,by decide,by decide⟩,?_⟩
 have k3:KC [h,c] H H2:=⟨(k1.trans k2).nil⟩
 refine Zbv (fun hc=>?_) (fun hc=>?_)
 ·have hc':(10:Int) ^ 18 ≤ z:=hc
  have hpos : 0 < cells.length:=by
   rcases Nat.eq_zero_or_pos cells.length with e | e
   ·have e2:cells=[]:=List.eq_nil_of_length_eq_zero e
    subst e2
    have e3:(ix % m).toNat=0:=by simp at m1; omega
    rw[e3]at hz
    simp at hz
    omega
   ·exact e
  row_readAll go
  refine⟨wide_div c0 (b:=64) (by omega) (by decide) (by decide),?_⟩
  refine Zaz (SqL.of g1) rfl ?_
  refine Zaz (SqL.of g1) rfl ?_
  row_readAll go
  refine Zaz (SqL.of g1) rfl ?_
  refine Zj5 (SqL.of g2) ?_
  row_readAll go
  have e5:((List.map V.int cells).length:Int)=m:=by rw[Yb,m2 hpos]
  rw[e5]
  refine⟨m0,?_⟩
  refine Zk4 (j:=(ix % m).toNat) g2 ?_ fun H3 k4 g3=>?_
  ·rw[← Yb (f:=V.int),]at m2
   unfold ixN
   rw[if_pos hr0,if_pos (by rw[e5]; exact hr1)]
  row_readAll go
  refine⟨c0,?_⟩
  refine q _ H3 (Int.emod_nonneg _ (by omega)) (Int.emod_lt_of_pos _ c0) (k3.k.step k4 (by simp)) ⟨⟨st,ix,cells.set (ix % m).toNat (z / cap),k4.obj _ _ (by simp[D.ne]) g1,by rw[g3]; simp[List.map_set],hs0,hs1,hi0,by simpa using hl⟩,D.ne⟩
 ·row_readAll go
  refine Zaz (SqL.of g1) rfl ?_
  row_readAll go
  refine⟨.inr ⟨by decide,by decide⟩,.inr ⟨by decide,by decide⟩,by decide,?_⟩
  refine Zk4 (j:=0) g1 rfl fun H3 k4 g3=>?_
  row_readAll go
  refine Zaz (SqL.of g3) rfl ?_
  row_readAll go
  refine Zk4 (j:=2) g3 rfl fun H4 k5 g4=>?_
  row_readAll go
  refine Zaz (SqL.of g4) rfl ?_
  row_readAll go
  refine⟨⟨by decide,by decide⟩,c0,?_⟩
  refine q _ H4 (Int.emod_nonneg _ (by omega)) (Int.emod_lt_of_pos _ c0) ((k3.k.step k4 (by simp)).step k5 (by simp)) ⟨⟨_,_,cells,g4,k5.obj _ _ (by simp[Ne.symm D.ne]) (k4.obj _ _ (by simp[Ne.symm D.ne]) g2),Int.emod_nonneg _ (by omega),Int.emod_lt_of_pos _ (by omega),by omega,hl⟩,D.ne⟩
end M
namespace M
open PySem PySem.Spec L2
def okN(x:Str):Prop:=1 ≤ x.length∧x.length ≤ 8∧∀ c∈x.cps.toList,97 ≤ c∧c ≤ 122
def ZeM(x:Str):Bool:=decide (1 ≤ x.length) && decide (x.length ≤ 8) && x.cps.toList.all fun c=>decide (97 ≤ c) && decide (c ≤ 122)
theorem ZiJ{x:Str}(h:ZeM x=true):okN x:=by
 unfold ZeM at h
 simp only[Bool.and_eq_true,decide_eq_true_eq,List.all_eq_true]at h
 exact⟨h.1.1,h.1.2,h.2⟩
theorem join_eq(sep:Str)(l:List Str):Txt.join sep l=Str.join sep l:=eq_of_beq (PyProof.Rows.join_plain_closes sep l)
theorem ZkE(l:List Nat):Txt.join (YP "") (l.map fun k=>(⟨#[k]⟩:Str))=⟨l.toArray⟩:=by
 rw[join_eq,show YP "" = ⟨#[]⟩by decide +kernel]
 exact PyProof.Rows.join_ones l
theorem okN.lay{x:Str}(h:okN x):PyData.canLay0 (.str x)=true:=by
 simp only[PyData.canLay0]
 unfold PySem.PyData.strOk
 rw[Array.all_eq_true_iff_forall_mem]
 intro c hc
 have:=h.2.2 c (by simpa using hc)
 simp only[decide_eq_true_eq]
 omega
def okI(i:Int):Prop:=i.natAbs < 10 ^ 60
theorem okI.log{i:Int}(h:okI i):i.natAbs.log2 < 200:=by
 unfold okI at h
 rcases Nat.eq_zero_or_pos i.natAbs with e | e
 ·rw[e]; decide
 ·exact(Nat.log2_lt (by omega)).mpr (Nat.lt_of_lt_of_le h (by decide))
def Ex.wf:Nat→Ex→Prop
 | _,.int i=>okI i
 | _,.nm n=>okN n
 | _,.of n a=>okN n∧okN a
 | 0,.bin ..=>False
 | d + 1,.bin _ l r=>l.wf d∧r.wf d
theorem Ex.wf.mono:∀ {e:Ex} {d d':Nat},e.wf d→d ≤ d'→e.wf d'
 | .int _,d,d',h,_=>by cases d <;> cases d' <;> exact h
 | .nm _,d,d',h,_=>by cases d <;> cases d' <;> exact h
 | .of _ _,d,d',h,_=>by cases d <;> cases d' <;> exact h
 | .bin _ l r,0,_,h,_=>by exact h.elim
 | .bin _ l r,d + 1,0,_,hd=>by omega
 | .bin _ l r,d + 1,d' + 1,h,hd=>by
   simp only[Ex.wf]at h ⊢
   exact⟨h.1.mono (by omega),h.2.mono (by omega)⟩
theorem Ex.wf.dep:∀ {e:Ex} {d:Nat},e.wf d→e.dep ≤ d
 | .int _,_,_=>YR _
 | .nm _,_,_=>YR _
 | .of _ _,_,_=>YR _
 | .bin _ l r,0,h=>by exact h.elim
 | .bin _ l r,d + 1,h=>by
   simp only[Ex.wf]at h
   have h1:=h.1.dep
   have h2:=h.2.dep
   simp only[Ex.dep]; omega
theorem Ex.wf.fits:∀ {e:Ex} {d:Nat},e.wf d→e.fits
 | .int i,d,h=>by
   have h2:okI i:=by cases d <;> exact h
   have:=h2.log
   simp only[Ex.fits]; omega
 | .nm _,_,_=>by simp only[Ex.fits]
 | .of _ _,_,_=>by simp only[Ex.fits]
 | .bin _ l r,0,h=>by exact h.elim
 | .bin _ l r,d + 1,h=>by
   simp only[Ex.wf]at h
   simp only[Ex.fits]
   exact⟨h.1.fits,h.2.fits⟩
theorem ZiK{i:Int}(h:okI i):(YP (toString i)).length ≤ 61:=by
 have key:∀ n:Nat,n < 10 ^ 60→(toString n).toList.length ≤ 60:=fun n hn=>by
  show(Nat.repr n).toList.length ≤ 60
  unfold Nat.repr Nat.toDigits
  rw[String.toList_ofList]
  have:=PySem.digitsCore_len_pow 10 (by decide) 60 (n + 1) n [] (by decide) hn
  simpa using this
 have el:∀ s:String,(YP s).length=s.toList.length:=fun s=>by
  rw[Str.ofString_eq_toList]; simp[Str.length]
 rw[el]
 unfold okI at h
 cases i with
 | ofNat n =>
   have:=key n h
   show(toString n).toList.length ≤ 61
   omega
 | negSucc n =>
   have:=key (n + 1) h
   show("-" ++ toString (n + 1)).toList.length ≤ 61
   rw[String.toList_append,Yc]
   have e1:("-" : String).toList.length=1:=by decide
   omega
def ZkF:Nat→Nat
 | 0=>61
 | d + 1=>2 * ZkF d + 5
theorem Zgf:∀ d,61 ≤ ZkF d
 | 0=>YQ _
 | d + 1=>by have:=Zgf d; simp only[ZkF]; omega
theorem Ex.wf.len:∀ {e:Ex} {d:Nat},e.wf d→e.txt.length ≤ ZkF d
 | .int i,d,h=>by
   have h2:okI i:=by cases d <;> exact h
   have:=ZiK h2
   have:=Zgf d
   simp only[Ex.txt]; omega
 | .nm n,d,h=>by
   have h2:okN n:=by cases d <;> exact h
   have:=h2.2.1
   have:=Zgf d
   simp only[Ex.txt]; omega
 | .of n a,d,h=>by
   have h2:okN n∧okN a:=by cases d <;> exact h
   have:=h2.1.2.1
   have:=h2.2.2.1
   have:=Zgf d
   have e1:(YP ".").length=1:=by decide +kernel
   simp only[Ex.txt,str_len,e1]; omega
 | .bin s l r,0,h=>by exact h.elim
 | .bin s l r,d + 1,h=>by
   simp only[Ex.wf]at h
   have h1:=h.1.len
   have h2:=h.2.len
   have e1:(YP "(").length=1:=by decide +kernel
   have e2:(YP ")").length=1:=by decide +kernel
   have e3:(YP (if s=true then " + " else " < ")).length=3:=by cases s <;> decide +kernel
   simp only[Ex.txt,str_len,e1,e2,e3,ZkF]; omega
theorem Ex.wf.lay:∀ {e:Ex} {d:Nat},e.wf d→e.d.canLay0=true∧e.d.depth ≤ d + 1
 | .int i,d,h=>by simp[Ex.d,PyData.canLay0,PyData.depth]
 | .nm n,d,h=>by
   have h2:okN n:=by cases d <;> exact h
   have:=h2.lay
   simp only[PyData.canLay0]at this
   simp[Ex.d,PyData.canLay0,PyData.canLayAll0,PyData.depth,PyData.depthAll,this]
   decide +kernel
 | .of n a,d,h=>by
   have h2:okN n∧okN a:=by cases d <;> exact h
   have h3:=h2.1.lay
   have h4:=h2.2.lay
   simp only[PyData.canLay0]at h3 h4
   simp[Ex.d,PyData.canLay0,PyData.canLayAll0,PyData.depth,PyData.depthAll,h3,h4]
   decide +kernel
 | .bin s l r,0,h=>by exact h.elim
 | .bin s l r,d + 1,h=>by
   simp only[Ex.wf]at h
   obtain⟨h1,h2⟩:=h.1.lay
   obtain⟨h3,h4⟩:=h.2.lay
   have e:PyData.strOk (opW s)=true:=by cases s <;> decide +kernel
   simp only[Ex.d,PyData.canLay0,PyData.canLayAll0,PyData.depth,PyData.depthAll,h1,h3,e]
   simp; omega
def kinds:List Str:=["absent", "any", "kind", "missing", "raised", "unbound"]
mutual
def Stm.wf:Stm→Prop
 | .set n e=>okN n∧e.wf 3
 | .del n=>okN n
 | .shw e=>e.wf 3
 | .call e=>e.wf 3
 | .raise=>True
 | .imp m n=>okN m∧okN n
 | .frm m w n=>okN m∧okN w∧okN n
 | .star m=>okN m
 | .fn n b=>okN n∧wfL b
 | .ite e b o=>e.wf 3∧wfL b∧wfL o
 | .tri k b h=>k∈kinds∧wfL b∧wfL h
def wfL:List Stm→Prop
 | []=>True
 | s :: r=>s.wf∧wfL r
end
theorem ZdE:∀ b:List Stm,wfL b↔∀ s∈b,s.wf
 | []=>by simp[wfL]
 | s :: r=>by simp[wfL,ZdE r]
mutual
theorem Stm.wf.fits:∀ {s:Stm},s.wf→s.fits
 | .set n e,h=>by simp only[Stm.wf]at h; simp only[Stm.fits]; exact⟨h.2.fits,by have:=h.2.dep; omega⟩
 | .del n,_=>by simp only[Stm.fits]
 | .shw e,h=>by simp only[Stm.wf]at h; simp only[Stm.fits]; exact⟨h.fits,by have:=h.dep; omega⟩
 | .call e,h=>by simp only[Stm.wf]at h; simp only[Stm.fits]; exact⟨h.fits,by have:=h.dep; omega⟩
 | .raise,_=>by simp only[Stm.fits]
 | .imp m n,_=>by simp only[Stm.fits]
 | .frm m w n,_=>by simp only[Stm.fits]
 | .star m,_=>by simp only[Stm.fits]
 | .fn n b,h=>by simp only[Stm.wf]at h; simp only[Stm.fits]; exact wfL_fits h.2
 | .ite e b o,h=>by simp only[Stm.wf]at h; simp only[Stm.fits]; exact⟨⟨h.1.fits,by have:=h.1.dep; omega⟩,wfL_fits h.2.1,wfL_fits h.2.2⟩
 | .tri k b o,h=>by simp only[Stm.wf]at h; simp only[Stm.fits]; exact⟨wfL_fits h.2.1,wfL_fits h.2.2⟩
theorem wfL_fits:∀ {b:List Stm},wfL b→fitsL b
 | [],_=>by simp only[fitsL]
 | s :: r,h=>by simp only[wfL]at h; simp only[fitsL]; exact⟨h.1.fits,wfL_fits h.2⟩
end
theorem Zlx{k:Str}(h:k∈kinds):PyData.strOk k=true:=by
 unfold kinds at h
 simp only[Yn,Ya,or_false]at h
 rcases h with rfl | rfl | rfl | rfl | rfl | rfl <;> decide +kernel
theorem Zly{k:Str}(h:k∈kinds):k.length ≤ 7:=by
 unfold kinds at h
 simp only[Yn,Ya,or_false]at h
 rcases h with rfl | rfl | rfl | rfl | rfl | rfl <;> decide +kernel
theorem okN.ok{x:Str}(h:okN x):PyData.strOk x=true:=by have:=h.lay; simpa only[PyData.canLay0]using this
mutual
theorem Stm.wf.lay:∀ {s:Stm},s.wf→s.d.canLay0=true∧s.d.depth ≤ 2 * s.dep + 6
 | .set n e,h=>by
   simp only[Stm.wf]at h
   obtain⟨h1,h2⟩:=h.2.lay
   have h3:=h.1.ok
   have e:PyData.strOk "set" = true:=by decide +kernel
   simp only[Stm.d,Stm.dep,PyData.canLay0,PyData.canLayAll0,PyData.depth,PyData.depthAll,h1,h3,e]; simp; omega
 | .del n,h=>by
   simp only[Stm.wf]at h
   have h3:=h.ok
   have e:PyData.strOk "del" = true:=by decide +kernel
   simp only[Stm.d,Stm.dep,PyData.canLay0,PyData.canLayAll0,PyData.depth,PyData.depthAll,h3,e]; simp
 | .shw e,h=>by
   simp only[Stm.wf]at h
   obtain⟨h1,h2⟩:=h.lay
   have e:PyData.strOk "show" = true:=by decide +kernel
   simp only[Stm.d,Stm.dep,PyData.canLay0,PyData.canLayAll0,PyData.depth,PyData.depthAll,h1,e]; simp; omega
 | .call e,h=>by
   simp only[Stm.wf]at h
   obtain⟨h1,h2⟩:=h.lay
   have e:PyData.strOk "call" = true:=by decide +kernel
   simp only[Stm.d,Stm.dep,PyData.canLay0,PyData.canLayAll0,PyData.depth,PyData.depthAll,h1,e]; simp; omega
 | .raise,_=>by
   have e:PyData.strOk "raise" = true:=by decide +kernel
   simp only[Stm.d,Stm.dep,PyData.canLay0,PyData.canLayAll0,PyData.depth,PyData.depthAll,e]; simp
 | .imp m n,h=>by
   simp only[Stm.wf]at h
   have h3:=h.1.ok
   have h4:=h.2.ok
   have e:PyData.strOk "\x69mport" = true:=by decide +kernel
   simp only[Stm.d,Stm.dep,PyData.canLay0,PyData.canLayAll0,PyData.depth,PyData.depthAll,h3,h4,e]; simp
 | .frm m w n,h=>by
   simp only[Stm.wf]at h
   have h3:=h.1.ok
   have h4:=h.2.1.ok
   have h5:=h.2.2.ok
   have e:PyData.strOk "from" = true:=by decide +kernel
   simp only[Stm.d,Stm.dep,PyData.canLay0,PyData.canLayAll0,PyData.depth,PyData.depthAll,h3,h4,h5,e]; simp
 | .star m,h=>by
   simp only[Stm.wf]at h
   have h3:=h.ok
   have e:PyData.strOk "star" = true:=by decide +kernel
   simp only[Stm.d,Stm.dep,PyData.canLay0,PyData.canLayAll0,PyData.depth,PyData.depthAll,h3,e]; simp
 | .fn n b,h=>by
   simp only[Stm.wf]at h
   have h3:=h.1.ok
   obtain⟨h1,h2⟩:=wfL_lay h.2
   have e:PyData.strOk "def" = true:=by decide +kernel
   simp only[Stm.d,Stm.dep,PyData.canLay0,PyData.canLayAll0,PyData.depth,PyData.depthAll,h1,h3,e]; simp; omega
 | .ite e b o,h=>by
   simp only[Stm.wf]at h
   obtain⟨h5,h6⟩:=h.1.lay
   obtain⟨h1,h2⟩:=wfL_lay h.2.1
   obtain⟨h3,h4⟩:=wfL_lay h.2.2
   have e:PyData.strOk "if" = true:=by decide +kernel
   simp only[Stm.d,Stm.dep,PyData.canLay0,PyData.canLayAll0,PyData.depth,PyData.depthAll,h1,h3,h5,e]; simp; omega
 | .tri k b o,h=>by
   simp only[Stm.wf]at h
   have h5:=Zlx h.1
   obtain⟨h1,h2⟩:=wfL_lay h.2.1
   obtain⟨h3,h4⟩:=wfL_lay h.2.2
   have e:PyData.strOk "try" = true:=by decide +kernel
   simp only[Stm.d,Stm.dep,PyData.canLay0,PyData.canLayAll0,PyData.depth,PyData.depthAll,h1,h3,h5,e]; simp; omega
theorem wfL_lay:∀ {b:List Stm},wfL b→PyData.canLayAll0 (blkD b)=true∧PyData.depthAll (blkD b) ≤ 2 * depL b + 6
 | [],_=>by simp[blkD,PyData.canLayAll0,PyData.depthAll]
 | s :: r,h=>by
   simp only[wfL]at h
   obtain⟨h1,h2⟩:=h.1.lay
   obtain⟨h3,h4⟩:=wfL_lay h.2
   simp only[blkD,PyData.canLayAll0,PyData.depthAll,depL,h1,h3]; simp; omega
end
theorem Stm.wf.headLen{s:Stm}(h:s.wf):s.head.length ≤ 600:=by
 have L:ZkF 3=523:=by decide
 cases s with
 | set n e=>simp only[Stm.wf]at h; have h1:=h.1.2.1; have h2:=h.2.len; rw[L]at h2; have e1:(YP "set ").length=4:=by decide +kernel
            have e2:(YP " = ").length=3:=by decide +kernel
            simp only[Stm.head,str_len,e1,e2]; omega
 | del n=>simp only[Stm.wf]at h; have h1:=h.2.1; have e1:(YP "del ").length=4:=by decide +kernel
          simp only[Stm.head,str_len,e1]; omega
 | shw e=>simp only[Stm.wf]at h; have h2:=h.len; rw[L]at h2; have e1:(YP "show").length=4:=by decide +kernel
          have e2:(YP " ").length=1:=by decide +kernel
          simp only[Stm.head,str_len,e1,e2]; omega
 | call e=>simp only[Stm.wf]at h; have h2:=h.len; rw[L]at h2; have e1:(YP "call").length=4:=by decide +kernel
           have e2:(YP " ").length=1:=by decide +kernel
           simp only[Stm.head,str_len,e1,e2]; omega
 | raise=>have e1:(YP "raise").length=5:=by decide +kernel
          simp only[Stm.head,e1]; omega
 | imp m n=>simp only[Stm.wf]at h; have h1:=h.1.2.1; have h2:=h.2.2.1; have e1:(YP "\x69mport ").length=7:=by decide +kernel
            have e2:(YP " as ").length=4:=by decide +kernel
            simp only[Stm.head,str_len,e1,e2]; omega
 | frm m w n=>simp only[Stm.wf]at h; have h1:=h.1.2.1; have h2:=h.2.1.2.1; have h3:=h.2.2.2.1; have e1:(YP "from ").length=5:=by decide +kernel
              have e2:(YP " as ").length=4:=by decide +kernel
              have e3:(YP " \x69mport ").length=8:=by decide +kernel
              simp only[Stm.head,str_len,e1,e2,e3]; omega
 | star m=>simp only[Stm.wf]at h; have h1:=h.2.1; have e1:(YP "from ").length=5:=by decide +kernel
           have e2:(YP " \x69mport *").length=9:=by decide +kernel
           simp only[Stm.head,str_len,e1,e2]; omega
 | fn n b=>simp only[Stm.wf]at h; have h1:=h.1.2.1; have e1:(YP "def").length=3:=by decide +kernel
           have e2:(YP " ").length=1:=by decide +kernel
           have e3:(YP ":").length=1:=by decide +kernel
           simp only[Stm.head,str_len,e1,e2,e3]; omega
 | ite e b o=>simp only[Stm.wf]at h; have h2:=h.1.len; rw[L]at h2; have e1:(YP "if ").length=3:=by decide +kernel
              have e3:(YP ":").length=1:=by decide +kernel
              simp only[Stm.head,str_len,e1,e3]; omega
 | tri k b o=>simp only[Stm.wf]at h; have h1:=Zly h.1; have e1:(YP "try").length=3:=by decide +kernel
              have e2:(YP " ").length=1:=by decide +kernel
              have e3:(YP ":").length=1:=by decide +kernel
              simp only[Stm.head,str_len,e1,e2,e3]; omega
mutual
theorem Stm.wf.lineLen:∀ {s:Stm} (ind:Str),s.wf→∀ l∈s.lines ind,l.length ≤ ind.length + 2 * s.dep + 600
 | .set n e,ind,h,l,m=>by have:=h.headLen; simp only[Stm.lines,Ye]at m; subst m; simp only[str_len]; omega
 | .del n,ind,h,l,m=>by have:=h.headLen; simp only[Stm.lines,Ye]at m; subst m; simp only[str_len]; omega
 | .shw e,ind,h,l,m=>by have:=h.headLen; simp only[Stm.lines,Ye]at m; subst m; simp only[str_len]; omega
 | .call e,ind,h,l,m=>by have:=h.headLen; simp only[Stm.lines,Ye]at m; subst m; simp only[str_len]; omega
 | .raise,ind,h,l,m=>by have:=h.headLen; simp only[Stm.lines,Ye]at m; subst m; simp only[str_len]; omega
 | .imp a b,ind,h,l,m=>by have:=h.headLen; simp only[Stm.lines,Ye]at m; subst m; simp only[str_len]; omega
 | .frm a b c,ind,h,l,m=>by have:=h.headLen; simp only[Stm.lines,Ye]at m; subst m; simp only[str_len]; omega
 | .star a,ind,h,l,m=>by have:=h.headLen; simp only[Stm.lines,Ye]at m; subst m; simp only[str_len]; omega
 | .fn n b,ind,h,l,m=>by
   have h0:=h.headLen
   simp only[Stm.wf]at h
   have e2:(YP "  ").length=2:=by decide +kernel
   simp only[Stm.lines,Yh,Ye]at m
   simp only[Stm.dep]
   rcases m with rfl | m
   ·simp only[str_len]; omega
   ·have:=innerLen (ind ++ "  ") h.2 l m
    rw[str_len,e2]at this; omega
 | .ite e b o,ind,h,l,m=>by
   have h0:=h.headLen
   simp only[Stm.wf]at h
   have e2:(YP "  ").length=2:=by decide +kernel
   have e3:(YP "else:").length=5:=by decide +kernel
   simp only[Stm.lines,Yh,Ye]at m
   simp only[Stm.dep]
   rcases m with((rfl | m) | rfl) | m
   ·simp only[str_len]; omega
   ·have:=innerLen (ind ++ "  ") h.2.1 l m
    rw[str_len,e2]at this; omega
   ·simp only[str_len]; omega
   ·have:=innerLen (ind ++ "  ") h.2.2 l m
    rw[str_len,e2]at this; omega
 | .tri e b o,ind,h,l,m=>by
   have h0:=h.headLen
   simp only[Stm.wf]at h
   have e2:(YP "  ").length=2:=by decide +kernel
   have e3:(YP "except:").length=7:=by decide +kernel
   simp only[Stm.lines,Yh,Ye]at m
   simp only[Stm.dep]
   rcases m with((rfl | m) | rfl) | m
   ·simp only[str_len]; omega
   ·have:=innerLen (ind ++ "  ") h.2.1 l m
    rw[str_len,e2]at this; omega
   ·simp only[str_len]; omega
   ·have:=innerLen (ind ++ "  ") h.2.2 l m
    rw[str_len,e2]at this; omega
theorem innerLen:∀ {b:List Stm} (ind:Str),wfL b→∀ l∈inner ind b,l.length ≤ ind.length + 2 * depL b + 600
 | [],ind,_,l,m=>by
   have e3:(YP "pass").length=4:=by decide +kernel
   simp only[inner,Ye]at m; subst m; simp only[str_len]; omega
 | s :: r,ind,h,l,m=>by
   simp only[wfL]at h
   simp only[inner,Yh]at m
   simp only[depL]
   rcases m with m | m
   ·have:=h.1.lineLen ind l m; omega
   ·have:=linesLen ind h.2 l m; omega
theorem linesLen:∀ {b:List Stm} (ind:Str),wfL b→∀ l∈linesL ind b,l.length ≤ ind.length + 2 * depL b + 600
 | [],ind,_,l,m=>by simp[linesL]at m
 | s :: r,ind,h,l,m=>by
   simp only[wfL]at h
   simp only[linesL,Yh]at m
   simp only[depL]
   rcases m with m | m
   ·have:=h.1.lineLen ind l m; omega
   ·have:=linesLen ind h.2 l m; omega
end
end M
namespace M
open PySem L2
def Zfn(K:YC)  : TS:=(Xb (Xm (YU 1) (Y6 2))
 (Xb (tFor (Zg4 K (YU 0)) (Y6 3) (Xm (tOp Zja (tCB Zfc (YV (tOp (rAdd K) (tOp (rAdd K) (tOp Zma (YU 2) (tC (.int 48271))) (tOp Zja (tCB Zfc (YV (YU 3) Y1)) (tC (.int 2147483629)))) (tC (.int 1))) Y1)) (tC (.int 2147483647))) (Y6 2)))
 (Xj (Zbi (YV (YU 2) (YV (tCB (ZhC K) (YV (YU 0) Y1)) (YV (tC (.int 0)) Y1)))))))
def Zlz:List Str:=["_law_script", "_law_seed", "_law_state", "_law_cell"]
def ZcM(K:YC):Sp:=fun vs H Q _=>∃ (a:YF) (ns:List Int) (seed:Int),vs=[.ref a,.int seed]∧SqL K H a (ns.map V.int)∧ns.length ≤ 63∧0 ≤ seed∧seed < 2147483647∧∀ h c H',H h=none→H c=none→Zb [] H H'→Drw H' h c→Q (.ref h) H'
theorem ZiL{K:YC}(vs:List V)(H:Hp)(Q:VK)(E:XK)(h:ZcM K vs H Q E):Zfn K { nx:=fun _ H'=>Q .non H',rt:=Q } (start Zlz vs) H:=by
 obtain⟨a,ns,seed,rfl,hs,hl,s0,s1,q⟩:=h
 show Zfn K _ [some (.ref a),some (.int seed),none,none] H
 unfold Zfn
 row_readAll go
 refine .inl ⟨⟨_,hs⟩,Zpr (xs:=ns.map V.int) (fun i σ' H'=>H'=H∧∃ st x,σ'=[some (.ref a),some (.int seed),some (.int st),x]∧0 ≤ st∧st < 2147483647) ⟨rfl,seed,none,rfl,s0,s1⟩ (fun i σ' H' _ ⟨e,_⟩=>by rw[e]; exact hs) ?_ ?_⟩
 ·rintro i x σ' H' hx ⟨rfl,st,y,rfl,t0,t1⟩
  rw[Ym]at hx
  cases hz:ns[i]? with
  | none=>rw[hz]at hx; cases hx
  | some z =>
  rw[hz]at hx
  cases hx
  row_readAll go
  refine⟨.inr ⟨by decide,by decide⟩,by decide,by decide,_,_,rfl,Int.emod_nonneg _ (by decide),Int.emod_lt_of_pos _ (by decide)⟩
 ·rintro σ' H' ⟨rfl,st,y,rfl,t0,t1⟩
  row_readAll go
  refine Zj6 (.inl hs) fun l H1 h1 k1 g1=>?_
  refine Zbr (by row_readAll ln) fun p H2 h2 k2 g2=>?_
  exact q p l H2 (k1.free h2) h1 (k1.trans k2) ⟨⟨st,0,ns,g2,k2.obj _ _ Ya g1,t0,t1,by decide,hl⟩,fun e=>by subst e; rw[h2]at g1; cases g1⟩
theorem Zf2{K:YC}{H:Hp}{Q:VK}{E:XK}{h c:YF}{cap:Int}(D:Drw H h c)(c0 : 0 < cap)(c1:cap < 2 ^ 64)(q:∀ v H',0 ≤ v→v < cap→Zb [h,c] H H'→Drw H' h c→Q (.int v) H'):Zd K [.ref h,.int cap] H Q E:=⟨h,c,cap,rfl,D,c0,c1,q⟩
theorem Drw.ne1{H:Hp}{h c p:YF}(D:Drw H h c)(n:H p=none):p≠h∧p≠c:=by
 obtain⟨st,ix,cells,h1,h2,_⟩:=D.ex
 exact⟨fun e=>(by subst e; rw[n]at h1; cases h1),fun e=>(by subst e; rw[n]at h2; cases h2)⟩
def Zd6(K:YC)  : TS:=(Xb (Xm (Zbi (YV (tC (.str "set")) (YV (tC (.str "as")) (YV (tC (.str "\x69mport")) (YV (tC (.str "from")) (YV (tC (.str "pass")) (YV (tC (.str "else")) (YV (tC (.str "def")) (YV (tC (.str "del")) (YV (tC (.str "if")) (YV (tC (.str "try")) (YV (tC (.str "raise")) (YV (tC (.str "any")) (YV (tC (.str "star")) (YV (tC (.str "of")) Y1))))))))))))))) (Y6 1))
 (Xb (Xm (tC (.str "abcdefghijklmnopqrstuvwxyz")) (Y6 2))
 (Xb (Xk (Xe (tOp (ZbB K) (Xo (Zd K) [] E0 (YV (YU 0) (YV (tC (.int 3)) Y1))) (tC (.int 0)))) (Xj (tOp (rIx K) (YU 1) (Xo (Zd K) [] E0 (YV (YU 0) (YV (tC (.int 14)) Y1))))) Xq)
 (Xj (tM1 (rJoin K) (tC (.str "")) (tLc (iRng1 (YV (tOp (rAdd K) (tC (.int 1)) (Xo (Zd K) [] E0 (YV (YU 0) (YV (tOp (rIx K) (Zbi (YV (tC (.int 2)) (YV (tC (.int 8)) Y1))) (Xo (Zd K) [] E0 (YV (YU 0) (YV (tC (.int 2)) Y1)))) Y1)))) Y1)) (Y6 3) tYes (tOp (rIx K) (YU 2) (Xo (Zd K) [] E0 (YV (YU 0) (YV (tC (.int 26)) Y1)))) [3]))))))
def ZkG:List Str:=["_law_h", "_law_words", "_law_letters", "_law_k"]
def ZiM:List Str:=["set", "as", "\x69mport", "from", "pass", "else", "def", "del", "if", "try", "raise", "any", "star", "of"]
theorem ZlA:∀ x∈ZiM,okN x:=fun x m=>ZiJ (List.all_eq_true.mp (show ZiM.all ZeM=true by decide +kernel) x m)
def ZaF(K:YC):Sp:=fun vs H Q _=>∃ h c,vs=[.ref h]∧Drw H h c∧∀ x H',okN x→Zb [h,c] H H'→Drw H' h c→Q (.str x) H'
theorem ZhQ{K:YC}(vs:List V)(H:Hp)(Q:VK)(E:XK)(h:ZaF K vs H Q E):Zd6 K { nx:=fun _ H'=>Q .non H',rt:=Q } (start ZkG vs) H:=by
 obtain⟨h,c,rfl,D,q⟩:=h
 show Zd6 K _ [some (.ref h),none,none,none] H
 unfold Zd6
 have sl:=Z3
 row_readAll go
 refine Zbr (by row_readAll ln) fun p1 H1 f1 k1 g1=>?_
 row_readAll go
 refine Zf2 (D.k0 k1) (by decide) (by decide) fun v H2 v0 v1 k2 D2=>?_
 row_readAll go
 have np:=D.ne1 f1
 have g2:=k2.obj _ _ (by simp[np.1,np.2]) g1
 have k12:KC [h,c] H H2:=⟨k1.nil.trans k2⟩
 refine Zbv (fun _=>?_) (fun _=>?_)
 ·row_readAll go
  refine Zf2 D2 (by decide) (by decide) fun w H3 w0 w1 k3 D3=>?_
  have g3:=k3.obj _ _ (by simp[np.1,np.2]) g2
  obtain⟨y,hy,ha⟩:=ZiI (xs:=ZiM.map V.str) w0 (by show w < 14; exact w1)
  rw[Ym]at hy
  cases hz:ZiM[w.toNat]? with
  | none=>rw[hz]at hy; cases hy
  | some z =>
  rw[hz]at hy
  cases hy
  refine Zaz (xs:=ZiM.map V.str) (SqL.of g3) ha ?_
  exact q z H3 (ZlA z (Yj hz)) (k12.k.trans k3) D3
 ·row_readAll go
  refine Zbr (by row_readAll ln) fun p3 H3 f3 k3 g3=>?_
  have D3:=D2.k0 k3
  refine Zf2 D3 (by decide) (by decide) fun w H4 w0 w1 k4 D4=>?_
  have np3:=D2.ne1 f3
  have g4:=k4.obj _ _ (by simp[np3.1,np3.2]) g3
  have hw:w=0∨w=1:=by omega
  have h8:∃ m:Int,atI [V.int 2,V.int 8] w=some (.int m)∧0 < m∧m ≤ 8:=by
   rcases hw with rfl | rfl
   ·exact⟨2,rfl,by decide,by decide⟩
   ·exact⟨8,rfl,by decide,by decide⟩
  obtain⟨m,hm,m0,m8⟩:=h8
  refine Zaz (SqL.of g4) hm ?_
  refine Zf2 D4 m0 (by omega) fun u H5 u0 u1 k5 D5=>?_
  row_readAll go
  refine⟨by omega,by omega,?_⟩
  refine ZhE (1 + u).toNat (fun Dd i H'=>∃ l:List Nat,H' Dd=some (.lst (l.map fun k=>V.str ⟨#[k]⟩))∧l.length=i∧(∀ k∈l,97 ≤ k∧k ≤ 122)∧Zb [h,c] H5 H'∧Drw H' h c) ?_ ?_ ?_ ?_ ?_
  ·exact fun Dd H6 _ k6 g6=>⟨[],g6,rfl,by simp,k6.nil,D5.k0 k6⟩
  ·exact fun Dd H6 _=>YQ _
  ·exact fun Dd i H6 hi _=>hi
  ·rintro Dd i H6 x H7 fD hi ⟨l,gl,ll,lo,k6,D6⟩ ⟨rfl,rfl⟩
   row_readAll go
   refine Zf2 D6 (by decide) (by decide) fun w H8 w0 w1 k8 D8=>?_
   have npD:=D5.ne1 fD
   have e26:(YP "abcdefghijklmnopqrstuvwxyz").cps.toList=[97,98,99,100,101,102,103,104,105,106,107,108,109,110,111,112,113,114,115,116,117,118,119,120,121,122]:=by decide +kernel
   obtain⟨y,hy,ha⟩:=ZiI (xs:=(YP "abcdefghijklmnopqrstuvwxyz").cps.toList) w0 (by rw[e26]; show w < 26; exact w1)
   refine Zre (by rw[sl]; decide +kernel) ha ?_
   have gl8:=k8.obj _ _ (by simp[npD.1,npD.2]) gl
   have hyr : 97 ≤ y∧y ≤ 122:=by
    have hm:=Yj hy
    rw[e26]at hm
    simp only[Yn,Ya,or_false]at hm
    omega
   refine⟨_,gl8,by simp; omega,l++[y],by rw[Y_]; simp,by simp[ll],?_,(k6.trans k8).step1 (Zb.put gl8 True.intro) fD,D8.keep (Zb.put gl8 True.intro) (by simp[Ne.symm npD.1]) (by simp[Ne.symm npD.2])⟩
   intro k hk
   simp only[Yh,Ye]at hk
   rcases hk with hk | rfl
   ·exact lo k hk
   ·exact hyr
  ·rintro Dd H6 fD ⟨l,gl,ll,lo,k6,D6⟩
   have e9:(l.map fun k=>V.str ⟨#[k]⟩)=(l.map fun k=>(⟨#[k]⟩:Str)).map V.str:=by simp
   rw[e9]at gl
   have e0:(YP "").length=0:=by decide +kernel
   have e1:((l.map fun k=>(⟨#[k]⟩:Str)).map (·.length)).sum=l.length:=by
    clear gl ll lo e9
    induction l with
    | nil=>rfl
    | cons x r ih=>simp only[Yr,List.sum_cons,ih,Yd]; show 1 + _=_; omega
   refine Zo7 (SqL.of gl) (by rw[e1,e0]; omega) ?_
   rw[ZkE]
   exact q _ H6 ⟨by show 1 ≤ l.toArray.size; simp; omega,by show l.toArray.size ≤ 8; simp; omega,by simpa using lo⟩ ((((k12.k.trans k3.nil).trans k4).trans k5).trans k6) D6
def Zc3(K:YC)  : TS:=(Xb (Xm (Zbi Y1) (Y6 2))
 (Xb (tFor (iRng1 (YV (tOp (rAdd K) (tC (.int 1)) (Xo (Zd K) [] E0 (YV (YU 0) (YV (YU 1) Y1)))) Y1)) (Y6 3) (Xb (Xm (Xo (ZaF K) [] E0 (YV (YU 0) Y1)) (Y6 4))
 (Xk (Xe (tOp (ZbD K) (YU 4) (YU 2))) (Xp (tBM K "list" rAppend (YU 2) (YV (YU 4) Y1))) Xq)))
 (Xj (YU 2))))
def Zjm:List Str:=["_law_h", "_law_many", "_law_found", "_law_k", "_law_name_here"]
theorem Ztt{K:YC}{H:Hp}{Q:VK}{E:XK}{h c:YF}(D:Drw H h c)(q:∀ x H',okN x→Zb [h,c] H H'→Drw H' h c→Q (.str x) H'):ZaF K [.ref h] H Q E:=⟨h,c,rfl,D,q⟩
def Zbq(K:YC):Sp:=fun vs H Q _=>∃ h c many,vs=[.ref h,.int many]∧Drw H h c∧0 < many∧many ≤ 1000∧∀ p (names:List Str) H',H p=none→names≠[]→(names.length:Int) ≤ many→(∀ x∈names,okN x)→names.Nodup→H' p=some (.lst (names.map V.str))→Zb [h,c] H H'→Drw H' h c→Q (.ref p) H'
theorem Zg7{K:YC}(vs:List V)(H:Hp)(Q:VK)(E:XK)(h:Zbq K vs H Q E):Zc3 K { nx:=fun _ H'=>Q .non H',rt:=Q } (start Zjm vs) H:=by
 obtain⟨h,c,many,rfl,D,m0,m1,q⟩:=h
 show Zc3 K _ [some (.ref h),some (.int many),none,none,none] H
 unfold Zc3
 have sl:=Z3
 row_readAll go
 refine Zbr (by row_readAll ln) fun p H1 f1 k1 g1=>?_
 have np:=D.ne1 f1
 have D1:=D.k0 k1
 row_readAll go
 refine Zf2 D1 m0 (by omega) fun u H2 u0 u1 k2 D2=>?_
 have g2:=k2.obj _ _ (by simp[np.1,np.2]) g1
 row_readAll go
 refine⟨by omega,by omega,?_⟩
 refine Znj (fun i σ' H'=>∃ (names:List Str) (x y:Option V),σ'=[some (.ref h),some (.int many),some (.ref p),x,y]∧H' p=some (.lst (names.map V.str))∧(∀ x∈names,okN x)∧names.length ≤ i∧(0 < i→names≠[])∧names.Nodup∧Zb [h,c] H H'∧Drw H' h c) ⟨[],none,none,rfl,g2,by simp,YQ _,fun h=>absurd h (Nat.lt_irrefl _),by simp,k1.nil.trans k2,D2⟩ ?_ ?_
 ·rintro i σ' H' hi ⟨names,x,y,rfl,gp,ok,ln,ne,nd,k,D'⟩
  row_readAll go
  refine Ztt D' fun z H3 oz k3 D3=>?_
  have g3:=k3.obj _ _ (by simp[np.1,np.2]) gp
  row_readAll go
  refine Zni (SqL.of g3) ?_
  row_readAll go
  by_cases hz:z∈names
  ·refine Zna hz ?_
   exact⟨names,_,_,rfl,g3,ok,by omega,fun _ e=>(by rw[e]at hz; cases hz),nd,k.trans k3,D3⟩
  ·refine Znb hz ?_
   row_readAll go
   refine⟨.inl ⟨rfl,_,SqL.of g3⟩,ZcY g3 (by simp; omega) fun H4 k4 g4=>?_⟩
   rw[← Zfe]at g4
   refine⟨names++[z],_,_,rfl,g4,?_,by simp; omega,by simp,List.nodup_append.mpr ⟨nd,by simp,by intro a ha b hb e; simp at hb; subst e; subst hb; exact hz ha⟩,k.step ((k3.step1' k4)) (by intro a m; simp at m; rcases m with rfl | rfl | rfl <;> simp[f1]),D3.keep k4 (by simp[Ne.symm np.1]) (by simp[Ne.symm np.2])⟩
   intro a m
   simp only[Yh,Ye]at m
   rcases m with m | rfl
   ·exact ok a m
   ·exact oz
 ·rintro σ' H' ⟨names,x,y,rfl,gp,ok,ln,ne,nd,k,D'⟩
  row_readAll go
  exact q p names H' f1 (ne (by omega)) (by omega) ok nd gp k D'
def Zb_(K:YC)  : TS:=(Xb (Xm (Xo (Zd K) [] E0 (YV (YU 0) (YV (tC (.int 7)) Y1))) (Y6 1))
 (Xb (Xk (Xe (tOp ZkZ (YU 1) (tC (.int 3)))) (Xj (YU 1)) Xq)
 (Xb (Xk (Xe (tOp (ZbB K) (YU 1) (tC (.int 3)))) (Xj (tOp Zg3 (tOp Zg3 (tOp ZnC (tC (.int 10)) (tC (.int 60))) (tC (.int 1))) (Xo (Zd K) [] E0 (YV (YU 0) (YV (tC (.int 3)) Y1))))) Xq)
 (Xj (tOp Zma (tOp (rIx K) (Zbi (YV (tC (.int 1)) (YV (tUn ZnD (tC (.int 1))) Y1))) (Xo (Zd K) [] E0 (YV (YU 0) (YV (tC (.int 2)) Y1)))) (Xo (Zd K) [] E0 (YV (YU 0) (YV (tOp (rIx K) (Zbi (YV (tC (.int 10)) (YV (tC (.int 1000)) (YV (tOp ZnC (tC (.int 10)) (tC (.int 17))) Y1)))) (tOp Zg3 (YU 1) (tC (.int 4)))) Y1))))))))
def ZhR:List Str:=["_law_h", "_law_kind"]
def ZH(K:YC):Sp:=fun vs H Q _=>∃ h c,vs=[.ref h]∧Drw H h c∧∀ i H',okI i→Zb [h,c] H H'→Drw H' h c→Q (.int i) H'
theorem Zf3{K:YC}(vs:List V)(H:Hp)(Q:VK)(E:XK)(h:ZH K vs H Q E):Zb_ K { nx:=fun _ H'=>Q .non H',rt:=Q } (start ZhR vs) H:=by
 obtain⟨h,c,rfl,D,q⟩:=h
 show Zb_ K _ [some (.ref h),none] H
 unfold Zb_
 row_readAll go
 refine Zf2 D (by decide) (by decide) fun u H1 u0 u1 k1 D1=>?_
 row_readAll go
 refine Zbv (fun h3=>?_) (fun h3=>?_)
 ·row_readAll go
  exact q u H1 (by unfold okI; omega) k1 D1
 row_readAll go
 refine Zbv (fun h4=>?_) (fun h4=>?_)
 ·row_readAll go
  refine⟨⟨by decide,by decide,by decide⟩,Zf2 D1 (by decide) (by decide) fun w H2 w0 w1 k2 D2=>?_⟩
  row_readAll go
  refine q _ H2 ?_ (k1.trans k2) D2
  have e:(10:Int) ^ (60:Int).toNat=10 ^ 60:=rfl
  rw[e]; unfold okI; omega
 row_readAll go
 refine Zbr (by row_readAll ln) fun p2 H2 f2 k2 g2=>?_
 refine Zf2 (D1.k0 k2) (by decide) (by decide) fun w H3 w0 w1 k3 D3=>?_
 have np:=D1.ne1 f2
 have g3:=k3.obj _ _ (by simp[np.1,np.2]) g2
 have hw:w=0∨w=1:=by omega
 have h8:∃ m:Int,atI [V.int 1,V.int (-1)] w=some (.int m)∧(m=1∨m = -1):=by
  rcases hw with rfl | rfl
  ·exact⟨1,rfl,.inl rfl⟩
  ·exact⟨-1,rfl,.inr rfl⟩
 obtain⟨m,hm,m1⟩:=h8
 refine Zaz (SqL.of g3) hm ?_
 refine⟨⟨by decide,by decide,by decide⟩,Zbr (by row_readAll ln) fun p4 H4 f4 k4 g4=>?_⟩
 row_readAll go
 have e17:(10:Int) ^ (17:Int).toNat=10 ^ 17:=rfl
 rw[e17]at g4
 have h9:∃ m:Int,atI [V.int 10,V.int 1000,V.int (10 ^ 17)] (u - 4)=some (.int m)∧0 < m∧m ≤ 10 ^ 17:=by
  have:u=4∨u=5∨u=6:=by omega
  rcases this with rfl | rfl | rfl
  ·exact⟨10,rfl,by decide,by decide⟩
  ·exact⟨1000,rfl,by decide,by decide⟩
  ·exact⟨10 ^ 17,rfl,by decide,by decide⟩
 obtain⟨b,hb,b0,b1⟩:=h9
 refine Zaz (SqL.of g4) hb ?_
 refine Zf2 (D3.k0 k4) b0 (by omega) fun z H5 z0 z1 k5 D5=>?_
 row_readAll go
 refine⟨.inl (by rcases m1 with rfl | rfl <;> exact⟨by decide,by decide⟩),?_⟩
 refine q _ H5 ?_ ((((k1.trans k2.nil).trans k3).trans k4.nil).trans k5) D5
 unfold okI
 rcases m1 with rfl | rfl <;> omega
structure NL(H:Hp)(h c nl:YF)(names:List Str):Prop where
 at_:H nl=some (.lst (names.map V.str))
 ne:names≠[]
 few:names.length ≤ 1000
 ok:∀ x∈names,okN x
 n1:nl≠h
 n2:nl≠c
theorem NL.keep{H H':Hp}{h c nl:YF}{names:List Str}(n:NL H h c nl names)(k:Zb [h,c] H H'):NL H' h c nl names:=⟨k.obj _ _ (by simp[n.n1,n.n2]) n.at_,n.ne,n.few,n.ok,n.n1,n.n2⟩
theorem NL.k0{H H':Hp}{h c nl:YF}{names:List Str}(n:NL H h c nl names)(k:Zb [] H H'):NL H' h c nl names:=n.keep k.nil
theorem NL.pos{H:Hp}{h c nl:YF}{names:List Str}(n:NL H h c nl names) : 0 < ((names.map V.str).length:Int):=by
 have:=List.length_pos_iff.mpr n.ne
 simp; omega
theorem NL.draw{K:YC}{H:Hp}{Q:VK}{E:XK}{h c nl:YF}{names:List Str}(N:NL H h c nl names)(D:Drw H h c)(q:∀ x H',x∈names→okN x→Zb [h,c] H H'→Drw H' h c→NL H' h c nl names→Q (.str x) H') :
  rLen K [.ref nl] H fun x H1=>Zd K [.ref h,x] H1 (fun y H2=>rIx K (.ref nl) y H2 Q) E:=by
 refine Zj5 (SqL.of N.at_) ?_
 have f:=N.few
 refine Zf2 D N.pos (by simp; omega) fun v H1 v0 v1 k1 D1=>?_
 have N1:=N.keep k1
 obtain⟨y,hy,ha⟩:=ZiI (xs:=names.map V.str) v0 v1
 rw[Ym]at hy
 cases hz:names[v.toNat]? with
 | none=>rw[hz]at hy; cases hy
 | some z =>
 rw[hz]at hy
 cases hy
 exact Zaz (SqL.of N1.at_) ha (q z H1 (Yj hz) (N.ok z (Yj hz)) k1 D1 N1)
theorem Zse{K:YC}{H:Hp}{Q:VK}{E:XK}{h c:YF}(D:Drw H h c)(q:∀ i H',okI i→Zb [h,c] H H'→Drw H' h c→Q (.int i) H'):ZH K [.ref h] H Q E:=⟨h,c,rfl,D,q⟩
def Ex.over(ns:List Str):Ex→Prop
 | .int _=>True
 | .nm n=>n∈ns
 | .of n a=>n∈ns∧a∈ns
 | .bin _ l r=>l.over ns∧r.over ns
def Zd7(K:YC)(sp:Sp):TS:=(Xb (tPar 3 4 (YV (Xo (Zd K) [] E0 (YV (YU 0) (YV (tC (.int 9)) Y1))) (YV (tOp (rIx K) (YU 1) (Xo (Zd K) [] E0 (YV (YU 0) (YV (tCB (rLen K) (YV (YU 1) Y1)) Y1)))) Y1)))
 (Xb (Xk (tAnd (Xe (tOp Zl7 (YU 3) (tC (.int 6)))) (Xe (tOp Zl7 (YU 2) (tC (.int 0))))) (Xj (Zf K (YV (tOp (rIx K) (Zbi (YV (tC (.str "sum")) (YV (tC (.str "less")) Y1))) (tOp Zg3 (YU 3) (tC (.int 7)))) (YV (Xo sp [] E0 (YV (YU 0) (YV (YU 1) (YV (tOp Zg3 (YU 2) (tC (.int 1))) Y1)))) (YV (Xo sp [] E0 (YV (YU 0) (YV (YU 1) (YV (tOp Zg3 (YU 2) (tC (.int 1))) Y1)))) Y1))))) Xq)
 (Xb (Xk (Xe (tOp (ZbB K) (YU 3) (tC (.int 3)))) (Xj (Zf K (YV (tC (.str "of")) (YV (YU 4) (YV (tOp (rIx K) (YU 1) (Xo (Zd K) [] E0 (YV (YU 0) (YV (tCB (rLen K) (YV (YU 1) Y1)) Y1)))) Y1))))) Xq)
 (Xj (tIf (Xe (tOp Zl7 (YU 3) (tC (.int 3)))) (Zf K (YV (tC (.str "name")) (YV (YU 4) Y1))) (Xo (ZH K) [] E0 (YV (YU 0) Y1)))))))
def ZkH:List Str:=["_law_h", "_law_names_here", "_law_depth", "_law_kind", "_law_name_here"]
def ZN(K:YC)(n:Nat):Sp:=fun vs H Q _=>∃ h c nl names d,vs=[.ref h,.ref nl,.int d]∧Drw H h c∧NL H h c nl names∧0 ≤ d∧d < n∧∀ v e H',Im K H' v (Ex.d e)→e.wf d.toNat→e.over names→Zb [h,c] H H'→Drw H' h c→NL H' h c nl names→Q v H'
theorem ZoS{K:YC}{n:Nat}{H:Hp}{Q:VK}{E:XK}{h c nl:YF}{names:List Str}{d:Int}(D:Drw H h c)(N:NL H h c nl names)(d0 : 0 ≤ d)(dn:d < n)(q:∀ v e H',Im K H' v (Ex.d e)→e.wf d.toNat→e.over names→Zb [h,c] H H'→Drw H' h c→NL H' h c nl names→Q v H'):ZN K n [.ref h,.ref nl,.int d] H Q E:=⟨h,c,nl,names,d,rfl,D,N,d0,dn,q⟩
theorem ZhS{K:YC}{n:Nat}(vs:List V)(H:Hp)(Q:VK)(E:XK)(h:ZN K (n + 1) vs H Q E):Zd7 K (ZN K n) { nx:=fun _ H'=>Q .non H',rt:=Q } (start ZkH vs) H:=by
 obtain⟨h,c,nl,names,d,rfl,D,N,d0,dn,q⟩:=h
 show Zd7 K _ _ [some (.ref h),some (.ref nl),some (.int d),none,none] H
 unfold Zd7
 row_readAll go
 refine Zf2 D (by decide) (by decide) fun u H1 u0 u1 k1 D1=>?_
 row_readAll go
 refine(N.keep k1).draw D1 fun z H2 m_oz oz k2 D2 N2=>?_
 have k12:KC [h,c] H H2:=⟨k1.trans k2⟩
 row_readAll go
 refine ZnN (fun h6 hd=>?_) ?_
 ·row_readAll go
  refine Zbr (by row_readAll ln) fun p3 H3 f3 k3 g3=>?_
  have hu:u=7∨u=8:=by omega
  have h8:∃ s:Bool,atI [V.str "sum",V.str "less"] (u - 7)=some (.str (opW s)):=by
   rcases hu with rfl | rfl
   ·exact⟨true,rfl⟩
   ·exact⟨false,rfl⟩
  obtain⟨s,hs⟩:=h8
  row_readAll go
  refine Zaz (SqL.of g3) hs ?_
  row_readAll go
  refine ZoS (D2.k0 k3) (N2.k0 k3) (by omega) (by omega) fun v1 e1 H4 i1 w1 x1 k4 D4 N4=>?_
  row_readAll go
  refine ZoS D4 N4 (by omega) (by omega) fun v2 e2 H5 i2 w2 x2 k5 D5 N5=>?_
  refine Zj (by row_readAll ln) fun p6 H6 f6 k6 g6=>?_
  refine q (.ref p6) (.bin s e1 e2) H6 ?_ ?_ ⟨x1,x2⟩ ((((k12.k.trans k3.nil).trans k4).trans k5).trans k6.nil) (D5.k0 k6) (N5.k0 k6)
  ·exact .tup g6 (.cons (.str _) (.cons ((i1.mono k5).mono k6) (.cons (i2.mono k6) .nil)))
  ·have e:d.toNat=(d - 1).toNat + 1:=by omega
   rw[e]
   exact⟨w1,w2⟩
 row_readAll go
 refine Zbv (fun h3=>?_) (fun h3=>?_)
 ·row_readAll go
  refine N2.draw D2 fun z2 H3 m_oz2 oz2 k3 D3 N3=>?_
  refine Zj (by row_readAll ln) fun p6 H6 f6 k6 g6=>?_
  refine q (.ref p6) (.of z z2) H6 ?_ (by cases d.toNat <;> exact⟨oz,oz2⟩) ⟨m_oz,m_oz2⟩ ((k12.k.trans k3).trans k6.nil) (D3.k0 k6) (N3.k0 k6)
  exact .tup g6 (.cons (.str _) (.cons (.str _) (.cons (.str _) .nil)))
 row_readAll go
 refine Zbv (fun h4=>?_) (fun h4=>?_)
 ·row_readAll go
  refine Zj (by row_readAll ln) fun p6 H6 f6 k6 g6=>?_
  refine q (.ref p6) (.nm z) H6 ?_ (by cases d.toNat <;> exact oz) m_oz (k12.k.trans k6.nil) (D2.k0 k6) (N2.k0 k6)
  exact .tup g6 (.cons (.str _) (.cons (.str _) .nil))
 ·row_readAll go
  refine Zse D2 fun i H3 oi k3 D3=>?_
  exact q (.int i) (.int i) H3 (.int i) (by cases d.toNat <;> exact oi) True.intro (k12.k.trans k3) D3 (N2.keep k3)
def Ztu:Nat→Nat
 | 0=>46 | 1=>22 | 2=>10 | 3=>4 | _=>0
def Zqk:Nat→Nat
 | 0=>138 | 1=>22 | 2=>10 | 3=>4 | _=>0
structure ZtM(d:Nat)(s:Stm):Prop where
 wf:s.wf
 dep:s.dep + d ≤ 4
 cnt:∀ ind,(s.lines ind).length ≤ Ztu d
structure Zql(d:Nat)(b:List Stm):Prop where
 wf:wfL b
 dep:depL b + d ≤ 4
 cnt:∀ ind,(linesL ind b).length ≤ Zqk d
theorem Zql.inner{d:Nat}{b:List Stm}(h:Zql d b)(ind:Str):(inner ind b).length ≤ max 1 (Zqk d):=by
 cases b with
 | nil=>simp[M.inner]; omega
 | cons s r=>rw[Zkt _ _ (by simp)]; have:=h.cnt ind; omega
theorem ImAll.snoc{K:YC}{H:Hp}{vs:List V}{ds:List PyData}{v:V}{d:PyData}(a:ImAll K H vs ds)(b:Im K H v d):ImAll K H (vs++[v]) (ds++[d]):=a.append (.cons b .nil)
theorem Zjn(a:List Stm)(s:Stm):depL (a++[s])=max (depL a) s.dep:=by
 induction a with
 | nil=>simp[depL]
 | cons x r ih=>simp only[YB,depL,ih]; omega
section
variable {K:YC} {H:Hp} {Q:VK} {E:XK}
theorem Zok{c:Nat}{z:Str}(q:Q (.bl (!decide (c∈z.cps.toList))) H):ZbD K (.str ⟨#[c]⟩) (.str z) H Q:=.inr ⟨c,z,rfl,rfl,q⟩
theorem Zjo(c:Nat):(c∈(YP "abcdefghijklmnopqrstuvwxyz").cps.toList)↔(97 ≤ c∧c ≤ 122):=by
 have e:(YP "abcdefghijklmnopqrstuvwxyz").cps.toList=List.range' 97 26:=by decide +kernel
 rw[e,List.mem_range'_1]
 omega
theorem Zmx(x:Str)(l:List Nat):DpAll K H (l.map fun c=>V.str ⟨#[c]⟩) (l.map fun c=>PyData.str ⟨#[c]⟩):=by
 induction l with
 | nil=>exact .nil
 | cons c r ih=>exact .cons (.str _) ih
theorem ZgE{f:V→Bool}:∀ {xs:List V} {ds:List PyData},DpAll K H xs ds→∃ es,DpAll K H (xs.filter f) es∧∀ e∈es,e∈ds
 | _,_,.nil=>⟨[],.nil,by simp⟩
 | x :: _,d :: _,.cons h t=>by
   obtain⟨es,h1,h2⟩:=ZgE (f:=f) t
   rw[List.filter_cons]
   split
   ·exact⟨d :: es,.cons h h1,by intro e m; simp only[Yn]at m ⊢; rcases m with m | m; exact .inl m; exact .inr (h2 e m)⟩
   ·exact⟨es,h1,fun e m=>Yf _ (h2 e m)⟩
theorem ZdF{α : Type}(f : α→Bool)(l:List α):(l.filter f).isEmpty=l.all fun x=>!f x:=by
 induction l with
 | nil=>rfl
 | cons x r ih=>rw[List.filter_cons]; cases h:f x <;> simp[h,ih]
end
def ZgF:V→Bool
 | .str z=>z.cps.toList.any fun c=>!decide (97 ≤ c∧c ≤ 122)
 | _=>false
theorem ZgG(c:Nat):ZgF (.str ⟨#[c]⟩) = !decide (97 ≤ c∧c ≤ 122):=by simp[ZgF]
def ZO(K:YC):Sp:=fun vs H Q _=>∃ x,vs=[.str x]∧x.length ≤ 4000∧PyData.strOk x=true∧∀ H',Zb [] H H'→Q (.bl (ZeM x)) H'
theorem Zd8{K:YC}{H:Hp}{Q:VK}{E:XK}{x:Str}(l:x.length ≤ 4000)(o:PyData.strOk x=true)(q:∀ H',Zb [] H H'→Q (.bl (ZeM x)) H'):ZO K [.str x] H Q E:=⟨x,rfl,l,o,q⟩
def Zfo(K:YC)  : TS:=(Xj (tAndV (tChain ZsR ZsR (tC (.int 1)) (tCB (rLen K) (YV (YU 0) Y1)) (tC (.int 8))) (tOp (ZbB K) (tLc (iStr (YU 0)) (Y6 1) (Xe (tOp (ZbD K) (YU 1) (tC (.str "abcdefghijklmnopqrstuvwxyz")))) (YU 1) [1]) (Zbi Y1))))
def ZlB:List Str:=["text", "sign"]
theorem ZiN{K:YC}(vs:List V)(H:Hp)(Q:VK)(E:XK)(h:ZO K vs H Q E):Zfo K { nx:=fun _ H'=>Q .non H',rt:=Q } (start ZlB vs) H:=by
 obtain⟨x,rfl,hl,ho,q⟩:=h
 show Zfo K _ [some (.str x),none] H
 unfold Zfo
 have sl:=Z3
 row_readAll go
 refine Zo5 (by omega) ?_
 row_readAll go
 refine Zbv (fun h1=>?_) (fun h1=>?_)
 ·row_readAll go
  refine Zbv (fun h2=>?_) (fun h2=>?_)
  ·row_readAll go
   refine Zff (σ:=[some (.str x),none]) ZgF Wk.str (by simp[signs]; unfold Str.length at hl; omega) (by simp) ?_ fun D H2 hD k2 h2=>?_
   ·intro i v H2 R hi k r
    simp only[signs,Ym,Option.map_eq_some_iff]at hi
    obtain⟨c,hc,rfl⟩:=hi
    row_readAll go
    refine Zok ?_
    row_readAll go
    have e:=r H2 (Zb.refl _ _)
    rw[ZgG]at e
    simp only[decide_eq_decide.mpr (Zjo c)]
    exact e
   ·row_readAll go
    refine Zbr (by row_readAll ln) fun p H3 hp k3 h3=>?_
    obtain⟨es,he,hm⟩:=ZgE (K:=K) (H:=H3) (f:=ZgF) (Zmx x x.cps.toList)
    refine Zld (k3.obj _ _ Ya h2) he h3 ((ZeT _).mpr fun d m=>?_) ?_
    ·have m2:=hm d m
     simp only[Yq]at m2
     obtain⟨c,hc,rfl⟩:=m2
     refine⟨?_,by simp[PyData.depth]⟩
     simp only[PyData.canLay0]
     unfold PySem.PyData.strOk at ho ⊢
     rw[Array.all_eq_true_iff_forall_mem]at ho ⊢
     intro c' hc'
     simp at hc'
     subst hc'
     exact ho _ (by simpa using hc)
    ·rw[ZdF]
     have e:=q H3 (k2.trans k3)
     have e2:ZeM x=(signs x).all (fun v=>!ZgF v):=by
      unfold ZeM signs
      have g1:(1:Int) ≤ x.length:=h1
      have g2:(x.length:Int) ≤ 8:=by assumption
      rw[decide_eq_true (show 1 ≤ x.length by omega),decide_eq_true (show x.length ≤ 8 by omega),List.all_map]
      simp only[Bool.true_and]
      congr 1
      funext c
      simp only[Function.comp,ZgG,Bool.not_not,Bool.decide_and]
     rw[e2]at e
     exact e
  ·have e:=q H (Zb.refl _ _)
   have e2:ZeM x=false:=by
    unfold ZeM
    have g2:¬ (x.length:Int) ≤ 8:=h2
    rw[decide_eq_false (show ¬ x.length ≤ 8 by omega)]
    simp
   rw[e2]at e
   row_readAll go
   exact e
 ·have e:=q H (Zb.refl _ _)
  have e2:ZeM x=false:=by
   unfold ZeM
   have g2:¬ (1:Int) ≤ x.length:=h1
   rw[decide_eq_false (show ¬ 1 ≤ x.length by omega)]
   simp
  rw[e2]at e
  row_readAll go
  exact e
def Stm.blocks:Stm→List (List Stm)
 | .fn _ b=>[b]
 | .ite _ b o=>[b,o]
 | .tri _ b h=>[b,h]
 | _=>[]
def Stm.names:Stm→List Str
 | .imp m n=>[m,n]
 | .frm m w n=>[m,w,n]
 | .set n _=>[n]
 | .fn n _=>[n]
 | .del n=>[n]
 | .star m=>[m]
 | _=>[]
def Stm.exprs:Stm→List Ex
 | .set _ e=>[e]
 | .ite e _ _=>[e]
 | .shw e=>[e]
 | .call e=>[e]
 | _=>[]
def Stm.vs(K:YC)(H:Hp)(s:Stm)(xs:List V):Prop:=match s with
 | .set n e=>∃ v,xs=[.str "set",.str n,v]∧Im K H v e.d
 | .del n=>xs=[.str "del",.str n]
 | .shw e=>∃ v,xs=[.str "show",v]∧Im K H v e.d
 | .call e=>∃ v,xs=[.str "call",v]∧Im K H v e.d
 | .raise=>xs=[.str "raise"]
 | .imp m n=>xs=[.str "\x69mport",.str m,.str n]
 | .frm m w n=>xs=[.str "from",.str m,.str w,.str n]
 | .star m=>xs=[.str "star",.str m]
 | .fn n b=>∃ v,xs=[.str "def",.str n,v]∧Im K H v (.tuple (blkD b))
 | .ite e b o=>∃ v1 v2 v3,xs=[.str "if",v1,v2,v3]∧Im K H v1 e.d∧Im K H v2 (.tuple (blkD b))∧Im K H v3 (.tuple (blkD o))
 | .tri k b h=>∃ v2 v3,xs=[.str "try",.str k,v2,v3]∧Im K H v2 (.tuple (blkD b))∧Im K H v3 (.tuple (blkD h))
theorem Im.stm{K:YC}{H:Hp}{v:V}{s:Stm}(h:Im K H v s.d):∃ a xs,v = .ref a∧SqT K H a xs∧s.vs K H xs:=by
 cases s <;> simp only[Stm.d]at h <;> obtain⟨a,xs,rfl,hs,ha⟩:=h.of_tup <;> refine⟨a,xs,rfl,hs,?_⟩ <;> obtain⟨v0,r,rfl,h0,hb⟩:=ha.of_cons <;> cases h0.of_str <;> clear ha <;> have ha:=hb
 case set=>obtain⟨v1,r,rfl,h1,ha⟩:=ha.of_cons; obtain⟨v2,r,rfl,h2,ha⟩:=ha.of_cons; cases ha.of_nil; cases h1.of_str; exact⟨_,rfl,h2⟩
 case del=>obtain⟨v1,r,rfl,h1,ha⟩:=ha.of_cons; cases ha.of_nil; cases h1.of_str; exact rfl
 case shw=>obtain⟨v1,r,rfl,h1,ha⟩:=ha.of_cons; cases ha.of_nil; exact⟨_,rfl,h1⟩
 case call=>obtain⟨v1,r,rfl,h1,ha⟩:=ha.of_cons; cases ha.of_nil; exact⟨_,rfl,h1⟩
 case raise=>cases ha.of_nil; exact rfl
 case imp=>obtain⟨v1,r,rfl,h1,ha⟩:=ha.of_cons; obtain⟨v2,r,rfl,h2,ha⟩:=ha.of_cons; cases ha.of_nil; cases h1.of_str; cases h2.of_str; exact rfl
 case frm=>obtain⟨v1,r,rfl,h1,ha⟩:=ha.of_cons; obtain⟨v2,r,rfl,h2,ha⟩:=ha.of_cons; obtain⟨v3,r,rfl,h3,ha⟩:=ha.of_cons; cases ha.of_nil; cases h1.of_str; cases h2.of_str; cases h3.of_str; exact rfl
 case star=>obtain⟨v1,r,rfl,h1,ha⟩:=ha.of_cons; cases ha.of_nil; cases h1.of_str; exact rfl
 case fn=>obtain⟨v1,r,rfl,h1,ha⟩:=ha.of_cons; obtain⟨v2,r,rfl,h2,ha⟩:=ha.of_cons; cases ha.of_nil; cases h1.of_str; exact⟨_,rfl,h2⟩
 case ite=>obtain⟨v1,r,rfl,h1,ha⟩:=ha.of_cons; obtain⟨v2,r,rfl,h2,ha⟩:=ha.of_cons; obtain⟨v3,r,rfl,h3,ha⟩:=ha.of_cons; cases ha.of_nil; exact⟨_,_,_,rfl,h1,h2,h3⟩
 case tri=>obtain⟨v1,r,rfl,h1,ha⟩:=ha.of_cons; obtain⟨v2,r,rfl,h2,ha⟩:=ha.of_cons; obtain⟨v3,r,rfl,h3,ha⟩:=ha.of_cons; cases ha.of_nil; cases h1.of_str; exact⟨_,_,rfl,h2,h3⟩
local macro_rules | `(tactic| row_readAll ia) => `(tactic| first | exact ImAll.nil | exact ImAll.cons (by row_readAll im) (by row_readAll ia) | exact ImAll.cons (.str _) (by row_readAll ia))
def ZbX(K:YC):Sp:=fun vs H Q _=>∃ v s,vs=[v]∧Im K H v (Stm.d s)∧∀ p H',Zb [] H H'→Im K H' (.ref p) (.tuple (s.blocks.map fun b=>.tuple (blkD b)))→Q (.ref p) H'
def Zc4(K:YC)  : TS:=(Xb (Xk (Xe (tOp (ZbB K) (tOp (rIx K) (YU 0) (tC (.int 0))) (tC (.str "def")))) (Xj (Zf K (YV (tOp (rIx K) (YU 0) (tC (.int 2))) Y1))) Xq)
 (Xb (Xk (Xe (tOp (Zi9 K) (tOp (rIx K) (YU 0) (tC (.int 0))) (Zf K (YV (tC (.str "if")) (YV (tC (.str "try")) Y1))))) (Xj (Zf K (YV (tOp (rIx K) (YU 0) (tC (.int 2))) (YV (tOp (rIx K) (YU 0) (tC (.int 3))) Y1)))) Xq)
 (Xj (Zf K Y1))))
def Zjp:List Str:=["statement"]
theorem Zg8{K:YC}(vs:List V)(H:Hp)(Q:VK)(E:XK)(h:ZbX K vs H Q E):Zc4 K { nx:=fun _ H'=>Q .non H',rt:=Q } (start Zjp vs) H:=by
 obtain⟨v,s,rfl,hi,q⟩:=h
 show Zc4 K _ [some v] H
 unfold Zc4
 obtain⟨a,xs,rfl,hs,hv⟩:=hi.stm
 cases s <;> simp only[Stm.vs]at hv
 case' set=>obtain⟨v2,rfl,h2⟩:=hv
 case' shw=>obtain⟨v2,rfl,h2⟩:=hv
 case' call=>obtain⟨v2,rfl,h2⟩:=hv
 case' fn=>obtain⟨v2,rfl,h2⟩:=hv
 case' ite=>obtain⟨v1,v2,v3,rfl,h1,h2,h3⟩:=hv
 case' tri=>obtain⟨v2,v3,rfl,h2,h3⟩:=hv
 case' del=>subst hv
 case' raise=>subst hv
 case' imp=>subst hv
 case' frm=>subst hv
 case' star=>subst hv
 all_goals (row_readAll ga; exact q _ _ (by row_readAll kp) (.tup (by row_readAll sq) (by row_readAll ia)))
def Zan(K:YC):Sp:=fun vs H Q _=>∃ v s,vs=[v]∧Im K H v (Stm.d s)∧∀ p H',Zb [] H H'→SqT K H' p (s.names.map V.str)→Q (.ref p) H'
def Zd9(K:YC)  : TS:=(Xb (Zil K (YU 0) [(some [.lit "\x69mport",.cap 1,.cap 2],(Xj (Zf K (YV (YU 1) (YV (YU 2) Y1))))),
  (some [.lit "from",.cap 1,.cap 3,.cap 2],(Xj (Zf K (YV (YU 1) (YV (YU 3) (YV (YU 2) Y1)))))),
  (some [.lit "set",.cap 2,.cap 4],(Xj (Zf K (YV (YU 2) Y1)))),
  (some [.lit "def",.cap 2,.cap 5],(Xj (Zf K (YV (YU 2) Y1)))),
  (some [.lit "del",.cap 2],(Xj (Zf K (YV (YU 2) Y1)))),
  (some [.lit "star",.cap 1],(Xj (Zf K (YV (YU 1) Y1))))])
 (Xj (Zf K Y1)))
def ZkI:List Str:=["statement", "module", "name", "wanted", "expr", "block"]
theorem ZhT{K:YC}(vs:List V)(H:Hp)(Q:VK)(E:XK)(h:Zan K vs H Q E):Zd9 K { nx:=fun _ H'=>Q .non H',rt:=Q } (start ZkI vs) H:=by
 obtain⟨v,s,rfl,hi,q⟩:=h
 show Zd9 K _ [some v,none,none,none,none,none] H
 unfold Zd9
 obtain⟨a,xs,rfl,hs,hv⟩:=hi.stm
 cases s <;> simp only[Stm.vs]at hv
 case' set=>obtain⟨v2,rfl,h2⟩:=hv
 case' shw=>obtain⟨v2,rfl,h2⟩:=hv
 case' call=>obtain⟨v2,rfl,h2⟩:=hv
 case' fn=>obtain⟨v2,rfl,h2⟩:=hv
 case' ite=>obtain⟨v1,v2,v3,rfl,h1,h2,h3⟩:=hv
 case' tri=>obtain⟨v2,v3,rfl,h2,h3⟩:=hv
 case' del=>subst hv
 case' raise=>subst hv
 case' imp=>subst hv
 case' frm=>subst hv
 case' star=>subst hv
 all_goals (row_readAll ga; exact q _ _ (by row_readAll kp) (by row_readAll sq))
def ZP(K:YC):Sp:=fun vs H Q _=>∃ v s,vs=[v]∧Im K H v (Stm.d s)∧∀ p H',Zb [] H H'→Im K H' (.ref p) (.tuple (s.exprs.map Ex.d))→Q (.ref p) H'
def Zbe(K:YC)  : TS:=(Xb (Zil K (YU 0) [(some [.lit "set",.cap 1,.cap 2],(Xj (Zf K (YV (YU 2) Y1)))),
  (some [.lit "if",.cap 2,.cap 3,.cap 4],(Xj (Zf K (YV (YU 2) Y1)))),
  (some [.lit "show",.cap 2],(Xj (Zf K (YV (YU 2) Y1)))),
  (some [.lit "call",.cap 2],(Xj (Zf K (YV (YU 2) Y1))))])
 (Xj (Zf K Y1)))
def Zf4:List Str:=["statement", "name", "expr", "block", "other"]
theorem ZeV{K:YC}(vs:List V)(H:Hp)(Q:VK)(E:XK)(h:ZP K vs H Q E):Zbe K { nx:=fun _ H'=>Q .non H',rt:=Q } (start Zf4 vs) H:=by
 obtain⟨v,s,rfl,hi,q⟩:=h
 show Zbe K _ [some v,none,none,none,none] H
 unfold Zbe
 obtain⟨a,xs,rfl,hs,hv⟩:=hi.stm
 cases s <;> simp only[Stm.vs]at hv
 case' set=>obtain⟨v2,rfl,h2⟩:=hv
 case' shw=>obtain⟨v2,rfl,h2⟩:=hv
 case' call=>obtain⟨v2,rfl,h2⟩:=hv
 case' fn=>obtain⟨v2,rfl,h2⟩:=hv
 case' ite=>obtain⟨v1,v2,v3,rfl,h1,h2,h3⟩:=hv
 case' tri=>obtain⟨v2,v3,rfl,h2,h3⟩:=hv
 case' del=>subst hv
 case' raise=>subst hv
 case' imp=>subst hv
 case' frm=>subst hv
 case' star=>subst hv
 all_goals (row_readAll ga; exact q _ _ (by row_readAll kp) (.tup (by row_readAll sq) (by row_readAll ia)))
def Zcp(K:YC):Sp:=fun vs H Q _=>∃ a xs,vs=[.ref a]∧SqT K H a xs∧Q (.int ((xs.length / 2:Nat):Int)) H
def Zd_(K:YC)  : TS:=(Xj (tOp ZnB (tCB (rLen K) (YV (YU 0) Y1)) (tC (.int 2))))
def ZkJ:List Str:=["path"]
theorem ZhU{K:YC}(vs:List V)(H:Hp)(Q:VK)(E:XK)(h:Zcp K vs H Q E):Zd_ K { nx:=fun _ H'=>Q .non H',rt:=Q } (start ZkJ vs) H:=by
 obtain⟨a,xs,rfl,hs,q⟩:=h
 show Zd_ K _ [some (.ref a)] H
 unfold Zd_
 row_readAll go
 refine Znc hs ?_
 row_readAll go
 exact⟨⟨by decide,by decide⟩,q⟩
def Ex.ok(ops:Nat):Ex→Bool
 | .int i=>decide (i.natAbs < 10 ^ 60)
 | .nm n=>ZeM n
 | .of n a=>ZeM n && ZeM a
 | .bin _ l r=>if ops=3 then false else l.ok (ops + 1) && r.ok (ops + 1)
def Ex.strs:Ex→List Str
 | .int _=>[]
 | .nm n=>[n]
 | .of n a=>[n,a]
 | .bin _ l r=>l.strs++r.strs
def Ex.tx(e:Ex):Prop:=∀ x∈e.strs,x.length ≤ 4000∧PyData.strOk x=true
def Zg(K:YC)(n:Nat):Sp:=fun vs H Q _=>∃ v e,∃ ops:Nat,vs=[v,.int ops]∧Im K H v (Ex.d e)∧e.tx∧ops + n=5∧ops ≤ 3∧∀ H',Zb [] H H'→Q (.bl (e.ok ops)) H'
theorem Zol{K:YC}{n:Nat}{H:Hp}{Q:VK}{E:XK}{v:V}{e:Ex}{ops:Nat}(h:Im K H v e.d)(t:e.tx)(o:ops + n=5)(o3:ops ≤ 3)(q:∀ H',Zb [] H H'→Q (.bl (e.ok ops)) H'):Zg K n [v,.int ops] H Q E:=⟨v,e,ops,rfl,h,t,o,o3,q⟩
def ZG(K:YC)(sp:Sp):TS:=(Xb (Xk (tB (Xo (Zo K) [] E0 (YV (YU 0) Y1))) (Xj (tChain ZkZ ZkZ (tUn ZnD (tC (.int 1000000000000000000000000000000000000000000000000000000000000))) (YU 0) (tC (.int 1000000000000000000000000000000000000000000000000000000000000)))) Xq)
 (Xb (Xk (Xe (tOp (ZbB K) (tOp (rIx K) (YU 0) (tC (.int 0))) (tC (.str "name")))) (Xj (Xo (ZO K) [] E0 (YV (tOp (rIx K) (YU 0) (tC (.int 1))) Y1))) Xq)
 (Xb (Xk (Xe (tOp (ZbB K) (tOp (rIx K) (YU 0) (tC (.int 0))) (tC (.str "of")))) (Xj (tAndV (Xo (ZO K) [] E0 (YV (tOp (rIx K) (YU 0) (tC (.int 1))) Y1)) (Xo (ZO K) [] E0 (YV (tOp (rIx K) (YU 0) (tC (.int 2))) Y1)))) Xq)
 (Xb (Xk (Xe (tOp (ZbB K) (YU 1) (tC (.int 3)))) (Xj (tC (.bl false))) Xq)
 (Xj (tAndV (Xo sp [] E0 (YV (tOp (rIx K) (YU 0) (tC (.int 1))) (YV (tOp (rAdd K) (YU 1) (tC (.int 1))) Y1))) (Xo sp [] E0 (YV (tOp (rIx K) (YU 0) (tC (.int 2))) (YV (tOp (rAdd K) (YU 1) (tC (.int 1))) Y1)))))))))
def ZdG:List Str:=["expr", "operators"]
theorem ZcN{K:YC}{n:Nat}(vs:List V)(H:Hp)(Q:VK)(E:XK)(h:Zg K (n + 1) vs H Q E):ZG K (Zg K n) { nx:=fun _ H'=>Q .non H',rt:=Q } (start ZdG vs) H:=by
 obtain⟨v,e,ops,rfl,hi,ht,ho,h3,q⟩:=h
 show ZG K _ _ [some v,some (.int ops)] H
 unfold ZG
 cases e with
 | int i =>
   cases hi
   have q1:=q H (Zb.refl _ _)
   simp only[Ex.ok]at q1
   row_readAll go
   refine Zbv (fun h1=>?_) (fun h1=>?_)
   ·row_readAll go
    have e:decide (i < 1000000000000000000000000000000000000000000000000000000000000)=decide (i.natAbs < 10 ^ 60):=decide_eq_decide.mpr ⟨fun h=>by omega,fun h=>by omega⟩
    rw[e]; exact q1
   ·row_readAll go
    rw[decide_eq_false (by omega)]at q1
    exact q1
 | nm m =>
   obtain⟨a,xs,rfl,hs,ha⟩:=hi.of_tup
   obtain⟨v0,r,rfl,h0,ha⟩:=ha.of_cons
   obtain⟨v1,r,rfl,h1,ha⟩:=ha.of_cons
   cases ha.of_nil; cases h0.of_str; cases h1.of_str
   have t:=ht m (by simp[Ex.strs])
   row_readAll go
   exact Zd8 t.1 t.2 q
 | of m b =>
   obtain⟨a,xs,rfl,hs,ha⟩:=hi.of_tup
   obtain⟨v0,r,rfl,h0,ha⟩:=ha.of_cons
   obtain⟨v1,r,rfl,h1,ha⟩:=ha.of_cons
   obtain⟨v2,r,rfl,h2,ha⟩:=ha.of_cons
   cases ha.of_nil; cases h0.of_str; cases h1.of_str; cases h2.of_str
   have t:=ht m (by simp[Ex.strs])
   have t2:=ht b (by simp[Ex.strs])
   simp only[Ex.ok]at q
   row_readAll go
   refine Zd8 t.1 t.2 fun H1 k1=>?_
   cases z:ZeM m <;> rw[z]at q
   ·row_readAll go
    exact q H1 k1
   ·row_readAll go
    exact Zd8 t2.1 t2.2 fun H2 k2=>q H2 (k1.trans k2)
 | bin s l r =>
   obtain⟨a,xs,rfl,hs,ha⟩:=hi.of_tup
   obtain⟨v0,rr,rfl,h0,ha⟩:=ha.of_cons
   obtain⟨v1,rr,rfl,h1,ha⟩:=ha.of_cons
   obtain⟨v2,rr,rfl,h2,ha⟩:=ha.of_cons
   cases ha.of_nil; cases h0.of_str
   have tl:l.tx:=fun x m=>ht x (by simp[Ex.strs,m])
   have tr:r.tx:=fun x m=>ht x (by simp[Ex.strs,m])
   have key:(fun D H'=>ZG K (Zg K n) D [some (V.ref a),some (.int ops)] H')=(fun D H'=>ZG K (Zg K n) D [some (V.ref a),some (.int ops)] H'):=rfl
   simp only[Ex.ok]at q
   cases s
   all_goals
    row_readAll go
    refine Zbv (fun h4=>?_) (fun h4=>?_)
    ·have e3:ops=3:=by omega
     rw[if_pos e3]at q
     row_readAll go
     exact q H (Zb.refl _ _)
    ·have e3:¬ ops=3:=by omega
     rw[if_neg e3]at q
     row_readAll go
     refine Zol (ops:=ops + 1) h1 tl (by omega) (by omega) fun H1 k1=>?_
     cases z:l.ok (ops + 1) <;> rw[z]at q
     ·row_readAll go
      exact q H1 k1
     ·row_readAll go
      refine Zol (ops:=ops + 1) (h2.mono k1) tr (by omega) (by omega) fun H2 k2=>?_
      exact q H2 (k1.trans k2)
abbrev Pth:=List Nat
def Zf5(p:Pth):PyData:=.tuple (p.map fun n=>.int (n:Nat))
def Zom(r:Pth×Stm):PyData:=.tuple [Zf5 r.1,r.2.d]
mutual
def Stm.sub(path:Pth):Stm→List (Pth×Stm)
 | .fn _ b=>walkL (path++[0]) 0 b
 | .ite _ b o=>walkL (path++[0]) 0 b++walkL (path++[1]) 0 o
 | .tri _ b h=>walkL (path++[0]) 0 b++walkL (path++[1]) 0 h
 | _=>[]
def walkL(base:Pth)(i:Nat):List Stm→List (Pth×Stm)
 | []=>[]
 | s :: r=>(base++[i],s) :: (s.sub (base++[i])++walkL base (i + 1) r)
end
def Zc5(path:Pth)(k:Nat):List (List Stm)→List (Pth×Stm)
 | []=>[]
 | b :: r=>walkL (path++[k]) 0 b++Zc5 path (k + 1) r
theorem Znt(path:Pth)(s:Stm):s.sub path=Zc5 path 0 s.blocks:=by
 cases s <;> simp[Stm.sub,Stm.blocks,Zc5]
theorem ZdH(base:Pth):∀ (a c:List Stm) (j:Nat),walkL base j (a++c)=walkL base j a++walkL base (j + a.length) c
 | [],c,j=>by simp[walkL]
 | s :: r,c,j=>by
   simp only[YB,walkL,ZdH base r c (j + 1),Yd,Ys]
   rw[show j + 1 + r.length=j + (r.length + 1)by omega]
theorem ZdI(path:Pth):∀ (a c:List (List Stm)) (j:Nat),Zc5 path j (a++c)=Zc5 path j a++Zc5 path (j + a.length) c
 | [],c,j=>by simp[Zc5]
 | s :: r,c,j=>by
   simp only[YB,Zc5,ZdI path r c (j + 1),Yd,Ys]
   rw[show j + 1 + r.length=j + (r.length + 1)by omega]
theorem ZhV{α : Type}{xs:List α}{i:Nat}{x : α}(e:xs[i]? = some x):xs=xs.take i++(x :: xs.drop (i + 1)):=by
 obtain⟨hi,e2⟩:=Yk.mp e
 rw[← e2,← List.drop_eq_getElem_cons hi,List.take_append_drop]
theorem take_len{α : Type}{xs:List α}{i:Nat}{x : α}(e:xs[i]? = some x):(xs.take i).length=i:=by
 have:=Zdl e; simp; omega
theorem ZkK(base:Pth){b:List Stm}{i:Nat}{s:Stm}(e:b[i]? = some s):walkL base 0 b=walkL base 0 (b.take i)++((base++[i],s) :: (s.sub (base++[i])++walkL base (i + 1) (b.drop (i + 1)))):=by
 conv=>lhs; rw[ZhV e]
 rw[ZdH,take_len e]
 simp[walkL]
theorem ZlC(base:Pth){b:List Stm}{i:Nat}{s:Stm}(e:b[i]? = some s):walkL base 0 (b.take (i + 1))=walkL base 0 (b.take i)++((base++[i],s) :: s.sub (base++[i])):=by
 rw[take_snoc e,ZdH,take_len e]
 simp[walkL]
theorem ZkL(path:Pth){bs:List (List Stm)}{k:Nat}{b:List Stm}(e:bs[k]? = some b):Zc5 path 0 bs=Zc5 path 0 (bs.take k)++(walkL (path++[k]) 0 b++Zc5 path (k + 1) (bs.drop (k + 1))):=by
 conv=>lhs; rw[ZhV e]
 rw[ZdI,take_len e]
 simp[Zc5]
theorem ZlD(path:Pth){bs:List (List Stm)}{k:Nat}{b:List Stm}(e:bs[k]? = some b):Zc5 path 0 (bs.take (k + 1))=Zc5 path 0 (bs.take k)++walkL (path++[k]) 0 b:=by
 rw[take_snoc e,ZdI,take_len e]
 simp[Zc5]
theorem ZkM{s:Stm}{k:Nat}{b:List Stm}(e:s.blocks[k]? = some b):depL b < s.dep:=by
 have m:=Yj e
 cases s <;> simp only[Stm.blocks,Yn,Ya,or_false]at m
 ·subst m; simp only[Stm.dep]; omega
 ·rcases m with rfl | rfl <;> (simp only[Stm.dep]; omega)
 ·rcases m with rfl | rfl <;> (simp only[Stm.dep]; omega)
section
variable {K:YC} {σ:L2.St} {H:Hp} {Q:VK} {R:L2.St→Hp→Prop}
theorem Zhu{a:YF}{x y:V}{i j:Nat}(h:SqT K H a [x,y])(q:R ((σ.set i (some x)).set j (some y)) H):gTup K 2 (gCons (Y6 i) (gCons (Y6 j) gNil)) (.ref a) σ H R :=
 Zo6 h rfl (ZsT (ZsT (Zs_ q)))
theorem Im.path{a:YF}{p:Pth}(h:Im K H (.ref a) (Zf5 p)):SqT K H a (p.map fun n=>V.int (n:Nat)):=by
 obtain⟨b,xs,e,hs,ha⟩:=h.of_tup
 cases e
 have key:∀ (p:Pth) (xs:List V),ImAll K H xs (p.map fun n=>PyData.int (n:Nat))→xs=p.map fun n=>V.int (n:Nat):=by
  intro p
  induction p with
  | nil=>intro xs h; exact h.of_nil
  | cons n r ih =>
    intro xs h
    obtain⟨v,r',rfl,h1,h2⟩:=h.of_cons
    rw[h1.of_int,ih r' h2]
    rfl
 rw[key p xs ha]at hs
 exact hs
theorem ZhW{a:YF}{p:Pth}(h:SqT K H a (p.map fun n=>V.int (n:Nat))):Im K H (.ref a) (Zf5 p):=by
 refine .tup h ?_
 induction p generalizing a with
 | nil=>exact .nil
 | cons n r ih =>
   have key:∀ r:Pth,ImAll K H (r.map fun n=>V.int (n:Nat)) (r.map fun n=>PyData.int (n:Nat)):=by
    intro r
    induction r with
    | nil=>exact .nil
    | cons m r ih=>exact .cons (.int _) ih
   exact key (n :: r)
end
def Zq(K:YC)(n:Nat):Sp:=fun vs H Q _=>∃ v bv b base,vs=[v,.ref bv]∧Im K H v (.tuple (blkD b))∧Im K H (.ref bv) (Zf5 base)∧depL b < n∧(walkL base 0 b).length ≤ 100000∧base.length + 2 * n ≤ 1000 ∧
 ∀ p ws H',H p=none→Zb [] H H'→H' p=some (.lst ws)→ImAll K H' ws ((walkL base 0 b).map Zom)→Q (.ref p) H'
def Zbw(K:YC)(sp:Sp):TS:=(Xb (Xm (Zbi Y1) (Y6 2))
 (Xb (tFor (Zio K (YV (YU 0) Y1)) (gTup K 2 (gCons (Y6 3) (gCons (Y6 4) gNil))) (Xb (Xm (tOp (rAdd K) (YU 1) (Zf K (YV (YU 3) Y1))) (Y6 5))
 (Xb (Xp (tBM K "list" rAppend (YU 2) (YV (Zf K (YV (YU 5) (YV (YU 4) Y1))) Y1)))
 (tFor (Zio K (YV (Xo (ZbX K) [] E0 (YV (YU 4) Y1)) Y1)) (gTup K 2 (gCons (Y6 6) (gCons (Y6 7) gNil))) (Xp (tBM K "list" rExtend (YU 2) (YV (Xo sp [] E0 (YV (YU 7) (YV (tOp (rAdd K) (YU 5) (Zf K (YV (YU 6) Y1))) Y1))) Y1)))))))
 (Xj (YU 2))))
def ZgH:List Str:=["block", "base", "found", "index", "statement", "path", "number", "inner"]
theorem Zfp{K:YC}{n:Nat}(vs:List V)(H:Hp)(Q:VK)(E:XK)(h:Zq K (n + 1) vs H Q E):Zbw K (Zq K n) { nx:=fun _ H'=>Q .non H',rt:=Q } (start ZgH vs) H:=by
 obtain⟨v,bv,b,base,rfl,hi,hb,hd,hn,hz,q⟩:=h
 show Zbw K _ _ [some v,some (.ref bv),none,none,none,none,none,none] H
 unfold Zbw
 have sl:=Z3
 obtain⟨a,xs,rfl,hs,ha⟩:=hi.of_tup
 have hxl:xs.length=b.length:=by rw[ha.length,ZcZ]
 row_readAll go
 refine Zbr (by row_readAll ln) fun l H1 hl k1 h1=>?_
 row_readAll go
 refine .inr ⟨⟨_,k1.sqT hs⟩,?_⟩
 refine Zk_ (xs:=xs) (fun i σ' H'=>∃ ws o3 o4 o5 o6 o7,σ'=[some (.ref a),some (.ref bv),some (.ref l),o3,o4,o5,o6,o7]∧H' l=some (.lst ws)∧ImAll K H' ws ((walkL base 0 (b.take i)).map Zom)∧Zb [] H H')
  ⟨[],none,none,none,none,none,rfl,h1,by simpa[walkL]using .nil,k1⟩ (fun i σ' H' _ p=>by obtain⟨_,_,_,_,_,_,_,_,_,k⟩:=p; exact k.sqT hs) ?_ ?_
 ·rintro i x T σ' H2 H3 hx ⟨ws,o3,o4,o5,o6,o7,rfl,g2,w2,k2⟩ k3 hT
  obtain⟨d,hd2,hx2⟩:=ha.get hx
  obtain⟨s,hs2,rfl⟩:=Zj7 hd2
  have hdep:=Zgd hs2
  have wsp:=ZkK base hs2
  have hwl:ws.length=(walkL base 0 (b.take i)).length:=by rw[w2.length,Yb]
  have hn2:(walkL base 0 (b.take i)).length + 1 + (s.sub (base++[i])).length ≤ 100000:=by
   rw[wsp]at hn
   simp only[Yc,Yd]at hn
   omega
  have hT3:SqT K H3 T [.int (i:Nat),x]:=hT
  refine Zhu hT3 ?_
  row_readAll go
  refine Zj (by row_readAll ln) fun p4 H4 f4 k4 g4=>?_
  have kk4:Zb [] H H4:=(k2.trans k3).trans k4
  refine Zim (kk4.sqT hb.path) g4 (by simp; omega) fun p5 H5 k5 g5=>?_
  row_readAll go
  have kk5:Zb [] H H5:=kk4.trans k5
  have kc5:Zb [] H2 H5:=(k3.trans k4).trans k5
  have gl5:=kc5.obj _ _ Ya g2
  refine⟨.inl ⟨rfl,_,SqL.of gl5⟩,?_⟩
  refine Zj (by row_readAll ln) fun p6 H6 f6 k6 g6=>?_
  have gl6:=k6.obj _ _ Ya gl5
  refine ZcY gl6 (by omega) fun H7 k7 g7=>?_
  have kk6:Zb [] H H6:=kk5.trans k6
  have kk7:Zb [] H H7:=kk6.step1 k7 hl
  have ip5:Im K H5 (.ref p5) (Zf5 (base++[i])):=ZhW (by simpa using g5)
  have w7:ImAll K H7 (ws++[.ref p6]) ((walkL base 0 (b.take i)++[(base++[i],s)]).map Zom):=by
   rw[Yl]
   refine((w2.mono (kc5.trans k6)).mono k7).append (.cons ?_ .nil)
   exact .tup (k7.sqT g6) (.cons ((ip5.mono k6).mono k7) (.cons (hx2.mono kk7) .nil))
  row_readAll go
  refine⟨x,s,rfl,hx2.mono kk7,fun p8 H8 k8 i8=>?_⟩
  obtain⟨a8,ys,e8,hs8,ha8⟩:=i8.of_tup
  cases e8
  row_readAll go
  refine .inr ⟨⟨_,hs8⟩,?_⟩
  have kk8:Zb [] H H8:=kk7.trans k8
  have ipath8:Im K H8 (.ref p5) (Zf5 (base++[i])):=((ip5.mono k6).mono k7).mono k8
  have ykl:ys.length=s.blocks.length:=by rw[ha8.length,Yb]
  refine Zk_ (xs:=ys) (fun j σ' H'=>∃ ws o6 o7,σ'=[some (.ref a),some (.ref bv),some (.ref l),some (.int (i:Nat)),some x,some (.ref p5),o6,o7]∧H' l=some (.lst ws)∧ImAll K H' ws ((walkL base 0 (b.take i)++((base++[i],s) :: Zc5 (base++[i]) 0 (s.blocks.take j))).map Zom)∧Zb [] H H'∧KC [l] H8 H')
   ⟨_,_,_,rfl,k8.obj _ _ Ya g7,by simpa[Zc5]using w7.mono k8,kk8,⟨Zb.refl _ _⟩⟩ (fun j σ' H' _ p=>by obtain⟨_,_,_,_,_,_,_,k⟩:=p; exact k.k.sqT hs8) ?_ ?_
  ·rintro j y T2 σ' H9 H10 hy ⟨ws9,o6,o7,rfl,g9,w9,k9,kc9⟩ k10 hT2
   obtain⟨dd,hdd,hyy⟩:=ha8.get hy
   rw[Ym,Option.map_eq_some_iff]at hdd
   obtain⟨b2,hb2,rfl⟩:=hdd
   have hdep2:=ZkM hb2
   have ssp:=ZkL (base++[i]) hb2
   have hsub:(s.sub (base++[i])).length=(Zc5 (base++[i]) 0 (s.blocks.take j)).length + ((walkL (base++[i]++[j]) 0 b2).length + (Zc5 (base++[i]) (j + 1) (s.blocks.drop (j + 1))).length):=by
    rw[Znt,ssp,Yc,Yc]
   have kk10:Zb [] H H10:=k9.trans k10
   have kc10:Zb [l] H8 H10:=kc9.k.step0 k10
   refine Zhu hT2 ?_
   row_readAll go
   refine⟨.inl ⟨rfl,_,SqL.of (k10.obj _ _ Ya g9)⟩,?_⟩
   refine Zj (by row_readAll ln) fun p11 H11 f11 k11 g11=>?_
   have kc11:Zb [l] H8 H11:=kc10.step0 k11
   refine Zim (kc11.sqT ipath8.path) g11 (by simp; omega) fun p12 H12 k12 g12=>?_
   have kc12:Zb [l] H8 H12:=kc11.step0 k12
   refine⟨y,p12,b2,base++[i]++[j],rfl,hyy.mono kc12,ZhW (by simpa using g12),by omega,by omega,by simp; omega,fun p13 ws13 H13 f13 k13 g13 w13=>?_⟩
   have gl12:=k12.obj _ _ Ya (k11.obj _ _ Ya (k10.obj _ _ Ya g9))
   have gl13:=k13.obj _ _ Ya gl12
   have l9:=w9.length
   have l13:=w13.length
   simp only[Yb,Yc,Yd]at l9 l13
   refine Zml gl13 g13 (by omega) fun H14 k14 g14=>?_
   have kc13:Zb [] H9 H13:=((k10.trans k11).trans k12).trans k13
   refine⟨_,_,_,rfl,g14,?_,(k9.trans kc13).step1 k14 hl,⟨(kc9.k.step0 kc13).trans k14⟩⟩
   rw[ZlD _ hb2,← YB,← Ys,Yl]
   exact((w9.mono kc13).mono k14).append (w13.mono k14)
  ·rintro σ' H9 ⟨ws9,o6,o7,rfl,g9,w9,k9,kc9⟩
   refine⟨ws9,_,_,_,_,_,rfl,g9,?_,k9⟩
   rw[ZlC base hs2,Znt]
   rw[ykl,Yt]at w9
   exact w9
 ·rintro σ' H2 ⟨ws,o3,o4,o5,o6,o7,rfl,g2,w2,k2⟩
  row_readAll go
  refine q l ws H2 hl k2 g2 ?_
  rw[hxl,Yt]at w2
  exact w2
def Stm.okAt(p:Pth)(s:Stm):Bool:=decide (p.length / 2 ≤ 3) && s.names.all ZeM && s.exprs.all (Ex.ok 0)
def Ex.lay(e:Ex):Prop:=e.tx∧e.d.canLay0=true∧e.d.depth ≤ 60
def Stm.tx(s:Stm):Prop:=(∀ x∈s.names,x.length ≤ 4000∧PyData.strOk x=true)∧∀ e∈s.exprs,e.lay
def Zqm(b:List Stm):Prop:=∀ r∈walkL [] 0 b,r.2.tx
def ZeW(rows:List (Pth×Stm)):Option Pth:=(rows.find? fun r=>!r.2.okAt r.1).map (·.1)
def ZaN(index:Nat)(name:Str)(b:List Stm):Option Pth:=if 8 ≤ index∨ZeM name=false∨60 < (walkL [] 0 b).length then some []else ZeW (walkL [] 0 b)
def Zon(K:YC)(H:Hp)(o:Option Pth)(v:V):Prop:=match o with
 | none=>v = .non
 | some p=>∃ a,v = .ref a∧Im K H v (Zf5 p)
def ZhX:V→Bool
 | .str x=>!ZeM x
 | _=>false
theorem ZlE{K:YC}{H:Hp}:∀ l:List Str,DpAll K H (l.map V.str) (l.map PyData.str)
 | []=>.nil
 | x :: r=>.cons (.str x) (ZlE r)
theorem Zjq(l:List Str):((l.map V.str).filter ZhX).isEmpty=l.all ZeM:=by
 rw[ZdF,List.all_map]
 congr 1
 funext x
 simp[ZhX]
theorem ImAll.filter{K:YC}{H:Hp}{f:V→Bool}:∀ {xs:List V} {ds:List PyData},ImAll K H xs ds→∃ es,ImAll K H (xs.filter f) es∧∀ e∈es,e∈ds
 | _,_,.nil=>⟨[],.nil,by simp⟩
 | x :: _,d :: _,.cons h t=>by
   obtain⟨es,h1,h2⟩:=ImAll.filter (f:=f) t
   rw[List.filter_cons]
   split
   ·exact⟨d :: es,.cons h h1,by intro e m; simp only[Yn]at m ⊢; rcases m with m | m; exact .inl m; exact .inr (h2 e m)⟩
   ·exact⟨es,h1,fun e m=>Yf _ (h2 e m)⟩
def ZT(K:YC):Sp:=fun vs H Q _=>∃ a v p s,vs=[.ref a,v]∧Im K H (.ref a) (Zf5 p)∧Im K H v (Stm.d s)∧s.tx∧∀ H',Zb [] H H'→Q (.bl (s.okAt p)) H'
def Zaf(K:YC)  : TS:=(Xb (Xk (tOr (Xe (tOp Zl7 (Xo (Zcp K) [] E0 (YV (YU 0) Y1)) (tC (.int 3)))) (Xe (tOp (Zi8 K) (tLc (Zg4 K (Xo (Zan K) [] E0 (YV (YU 1) Y1))) (Y6 3) (tNot (tB (Xo (ZO K) [] E0 (YV (YU 3) Y1)))) (YU 3) [3]) (Zbi Y1)))) (Xj (tC (.bl false))) Xq)
 (Xj (tOp (ZbB K) (tLc (Zg4 K (Xo (ZP K) [] E0 (YV (YU 1) Y1))) (Y6 2) (tNot (tB (Xo (Zg K 5) [] E0 (YV (YU 2) (YV (tC (.int 0)) Y1))))) (YU 2) [2]) (Zbi Y1))))
def Zeg:List Str:=["path", "statement", "expr", "name"]
theorem ZgI(s:Stm):s.exprs=[]∨∃ e,s.exprs=[e]:=by
 cases s <;> simp[Stm.exprs]
theorem Zc6{K:YC}(vs:List V)(H:Hp)(Q:VK)(E:XK)(h:ZT K vs H Q E):Zaf K { nx:=fun _ H'=>Q .non H',rt:=Q } (start Zeg vs) H:=by
 obtain⟨a,v,p,s,rfl,hp,hi,ht,q⟩:=h
 show Zaf K _ [some (.ref a),some v,none,none] H
 unfold Zaf
 have sl:=Z3
 row_readAll go
 refine⟨a,_,rfl,hp.path,?_⟩
 row_readAll go
 rw[Yb]
 refine Zbv (fun h1=>?_) (fun h1=>?_)
 ·row_readAll go
  have e:s.okAt p=false:=by
   unfold Stm.okAt
   rw[decide_eq_false (by omega)]
   simp
  rw[e]at q
  exact q H (Zb.refl _ _)
 row_readAll go
 refine⟨v,s,rfl,hi,fun p1 H1 k1 s1=>?_⟩
 row_readAll go
 have ln:s.names.length ≤ 3:=by cases s <;> simp[Stm.names]
 refine .inr ⟨⟨_,s1⟩,?_⟩
 refine Zff ZhX (Wk.tup s1) (by simp; omega) (by simp) ?_ fun D H2 hD k2 h2=>?_
 ·intro i x H2 R hx k2 r
  simp only[Ym,Option.map_eq_some_iff]at hx
  obtain⟨z,hz,rfl⟩:=hx
  have t:=ht.1 z (Yj hz)
  row_readAll go
  refine Zd8 t.1 t.2 fun H3 k3=>?_
  row_readAll go
  exact r H3 k3
 row_readAll go
 refine Zbr (by row_readAll ln) fun l3 H3 f3 k3 h3=>?_
 obtain⟨es,he,hm⟩:=ZgE (K:=K) (H:=H3) (f:=ZhX) (ZlE s.names)
 refine ZnZ (k3.obj _ _ Ya h2) he h3 ((ZeT _).mpr fun d m=>?_) ?_
 ·have m2:=hm d m
  simp only[Yq]at m2
  obtain⟨z,hz,rfl⟩:=m2
  exact⟨by simp only[PyData.canLay0]; exact(ht.1 z hz).2,by simp[PyData.depth]⟩
 rw[Zjq]
 have kk3:Zb [] H H3:=(k1.trans k2).trans k3
 cases hn:s.names.all ZeM
 ·have e:s.okAt p=false:=by
   unfold Stm.okAt
   rw[hn]
   simp
  rw[e]at q
  row_readAll go
  exact q H3 kk3
 row_readAll go
 have eo:s.okAt p=s.exprs.all (Ex.ok 0):=by
  unfold Stm.okAt
  rw[hn,decide_eq_true (by omega)]
  simp
 rw[eo]at q
 refine⟨v,s,rfl,hi.mono kk3,fun p4 H4 k4 i4=>?_⟩
 obtain⟨a4,xs,e4,s4,ha4⟩:=i4.of_tup
 cases e4
 row_readAll go
 have lx:xs.length ≤ 1:=by
  rw[ha4.length,Yb]
  rcases ZgI s with e | ⟨e0,e⟩ <;> rw[e] <;> simp
 refine .inr ⟨⟨_,s4⟩,?_⟩
 have kk4:Zb [] H H4:=kk3.trans k4
 refine Zff (fun _=>!(s.exprs.all (Ex.ok 0))) (Wk.tup s4) (by omega) (by simp) ?_ fun D5 H5 hD5 k5 h5=>?_
 ·intro i x H5 R hx k5 r
  obtain⟨d,hd,hxd⟩:=ha4.get hx
  rw[Ym,Option.map_eq_some_iff]at hd
  obtain⟨e,he2,rfl⟩:=hd
  have hall:s.exprs.all (Ex.ok 0)=e.ok 0:=by
   rcases ZgI s with e1 | ⟨e0,e1⟩
   ·rw[e1]at he2; simp at he2
   ·rw[e1]at he2 ⊢
    have hi0:=Zdl he2
    have:i=0:=by simp at hi0; omega
    subst this
    simp at he2
    subst he2
    simp
  row_readAll go
  refine Zol (ops:=0) (hxd.mono k5) (ht.2 e (Yj he2)).1 rfl (by decide) fun H6 k6=>?_
  row_readAll go
  rw[hall]at r
  exact r H6 k6
 row_readAll go
 refine Zbr (by row_readAll ln) fun l6 H6 f6 k6 h6=>?_
 obtain⟨es2,he2,hm2⟩:=(ha4.mono (k5.trans k6)).filter (f:=fun _=>!(s.exprs.all (Ex.ok 0)))
 refine Zld (k6.obj _ _ Ya h5) he2.dp h6 ((ZeT _).mpr fun d m=>?_) ?_
 ·have m2:=hm2 d m
  simp only[Yq]at m2
  obtain⟨z,hz,rfl⟩:=m2
  have t:=(ht.2 z hz).2
  exact⟨t.1,by omega⟩
 have e9:(xs.filter fun _=>!(s.exprs.all (Ex.ok 0))).isEmpty=s.exprs.all (Ex.ok 0):=by
  have lx2:xs.length=s.exprs.length:=by rw[ha4.length,Yb]
  rw[ZdF]
  rcases ZgI s with e1 | ⟨e0,e1⟩
  ·rw[e1]at lx2 ⊢
   cases xs with
   | nil=>simp
   | cons=>simp at lx2
  ·rw[e1]at lx2 ⊢
   cases xs with
   | nil=>simp at lx2
   | cons x r=>cases r with
     | nil=>simp
     | cons=>simp at lx2
 rw[e9]
 exact q H6 ((kk4.trans k5).trans k6)
def Zbb(K:YC):Sp:=fun vs H Q _=>∃ v b name,∃ index:Nat,vs=[.int index,.str name,v]∧Im K H v (.tuple (blkD b))∧depL b < 10∧(walkL [] 0 b).length ≤ 100000∧Zqm b∧name.length ≤ 4000∧PyData.strOk name=true ∧
 ∀ r H',Zb [] H H'→Zon K H' (ZaN index name b) r→Q r H'
def Zca(K:YC)  : TS:=(Xb (Xm (Xo (Zq K 10) [] E0 (YV (YU 2) (YV (Zf K Y1) Y1))) (Y6 3))
 (Xb (Xk (tOr (Xe (tOp ZsS (YU 0) (tC (.int 8)))) (tOr (tNot (tB (Xo (ZO K) [] E0 (YV (YU 1) Y1)))) (Xe (tOp Zl7 (tCB (rLen K) (YV (YU 3) Y1)) (tC (.int 60)))))) (Xj (Zf K Y1)) Xq)
 (Xb (tFor (Zg4 K (YU 3)) (gTup K 2 (gCons (Y6 4) (gCons (Y6 5) gNil))) (Xk (tNot (tB (Xo (ZT K) [] E0 (YV (YU 4) (YV (YU 5) Y1))))) (Xj (YU 4)) Xq))
 (Xj (tC .non)))))
def ZhY:List Str:=["index", "name", "block", "statements", "path", "statement"]
theorem ZlF{α : Type}{f : α→Bool}{xs:List α}{i:Nat}{x : α}(h:∀ y∈xs.take i,f y=false)(e:xs[i]? = some x)(t:f x=true):xs.find? f=some x:=by
 rw[ZhV e,List.find?_append,List.find?_eq_none.mpr (fun y m=>by simp[h y m])]
 simp[t]
theorem Zf6{K:YC}(vs:List V)(H:Hp)(Q:VK)(E:XK)(h:Zbb K vs H Q E):Zca K { nx:=fun _ H'=>Q .non H',rt:=Q } (start ZhY vs) H:=by
 obtain⟨v,b,name,index,rfl,hi,hd,hw,hb,hl,ho,q⟩:=h
 show Zca K _ [some (.int index),some (.str name),some v,none,none,none] H
 unfold Zca
 have sl:=Z3
 row_readAll go
 refine Zj (by row_readAll ln) fun p1 H1 f1 k1 s1=>?_
 refine⟨v,p1,b,[],rfl,hi.mono k1,ZhW s1,hd,hw,by simp,fun l ws H2 f2 k2 h2 w2=>?_⟩
 have kk2:Zb [] H H2:=k1.trans k2
 have lw:=w2.length
 rw[Yb]at lw
 have out:∀ H',Zb [] H2 H'→ZaN index name b=some []→mkT K [] H' (fun r H'=>Q r H'):=fun H' k e=>Zj (by row_readAll ln) fun p H3 f k3 s3=>q _ H3 (kk2.trans (k.trans k3)) (by rw[e]; exact⟨p,rfl,ZhW s3⟩)
 row_readAll go
 refine Zbv (fun h8=>?_) (fun h8=>?_)
 ·row_readAll go
  exact out H2 (Zb.refl _ _) (by unfold ZaN; rw[if_pos (.inl (by omega))])
 row_readAll go
 refine Zd8 hl ho fun H3 k3=>?_
 cases hz:ZeM name
 ·row_readAll go
  exact out H3 k3 (by unfold ZaN; rw[if_pos (.inr (.inl hz))])
 row_readAll go
 refine Zj5 (SqL.of (k3.obj _ _ Ya h2)) ?_
 row_readAll go
 refine Zbv (fun h60=>?_) (fun h60=>?_)
 ·row_readAll go
  exact out H3 k3 (by unfold ZaN; rw[if_pos (.inr (.inr (by omega)))])
 have e0:ZaN index name b=ZeW (walkL [] 0 b):=by
  unfold ZaN
  rw[if_neg]
  rintro(h | h | h)
  ·omega
  ·rw[hz]at h; cases h
  ·omega
 rw[e0]at q
 have kk3:Zb [] H H3:=kk2.trans k3
 row_readAll go
 refine .inl ⟨⟨_,SqL.of (k3.obj _ _ Ya h2)⟩,?_⟩
 refine Zgr (S:=[]) (Wk.lst (SqL.of (k3.obj _ _ Ya h2)) Ya) (fun i σ' H'=>∃ o4 o5,σ'=[some (.int index),some (.str name),some v,some (.ref l),o4,o5]∧Zb [] H3 H'∧∀ r∈(walkL [] 0 b).take i,r.2.okAt r.1=true) (fun i σ' H' p=>by obtain⟨_,_,_,k,_⟩:=p; exact k) ⟨none,none,rfl,Zb.refl _ _,by simp⟩ ?_ ?_
 ·rintro i x σ' H4 H5 hx ⟨o4,o5,rfl,k4,g4⟩ k5
  obtain⟨d,hd2,hx2⟩:=w2.get hx
  rw[Ym,Option.map_eq_some_iff]at hd2
  obtain⟨⟨p,s⟩,hr,rfl⟩:=hd2
  obtain⟨a,xs,rfl,sx,ax⟩:=hx2.of_tup
  obtain⟨v0,r,rfl,i0,ax⟩:=ax.of_cons
  obtain⟨v1,r,rfl,i1,ax⟩:=ax.of_cons
  cases ax.of_nil
  obtain⟨a0,xs0,rfl,_,_⟩:=i0.of_tup
  have kk5:Zb [] H2 H5:=k3.trans (k4.trans k5)
  refine Zhu (kk5.sqT sx) ?_
  row_readAll go
  refine⟨a0,v1,p,s,rfl,i0.mono kk5,i1.mono kk5,hb _ (Yj hr),fun H6 k6=>?_⟩
  cases ht:s.okAt p
  ·row_readAll go
   refine q _ H6 (kk2.trans (kk5.trans k6)) ?_
   have e1:ZeW (walkL [] 0 b)=some p:=by
    unfold ZeW
    rw[ZlF (x:=(p,s)) (fun y m=>by simp[g4 y m]) hr (by simp[ht])]
    rfl
   rw[e1]
   exact⟨a0,rfl,(i0.mono kk5).mono k6⟩
  ·row_readAll go
   refine⟨_,_,rfl,(k4.trans k5).trans k6,fun y m=>?_⟩
   rw[take_snoc hr]at m
   simp only[Yh,Ye]at m
   rcases m with m | rfl
   ·exact g4 y m
   ·exact ht
 ·rintro σ' H4 ⟨o4,o5,rfl,k4,g4⟩
  row_readAll go
  refine q _ H4 (kk3.trans k4) ?_
  have e1:ZeW (walkL [] 0 b)=none:=by
   unfold ZeW
   rw[lw,Yt]at g4
   rw[List.find?_eq_none.mpr (fun y m=>by simp[g4 y m])]
   rfl
  rw[e1]
  exact rfl
mutual
def Stm.cnt:Stm→Nat
 | .fn _ b=>cntL b + 1
 | .ite _ b o=>cntL b + cntL o + 1
 | .tri _ b h=>cntL b + cntL h + 1
 | _=>1
def cntL:List Stm→Nat
 | []=>0
 | s :: r=>s.cnt + cntL r
end
theorem ZbJ(a b:List Stm):cntL (a++b)=cntL a + cntL b:=by
 induction a with
 | nil=>simp[cntL]
 | cons x r ih=>simp only[YB,cntL,ih]; omega
mutual
def Stm.over(ms ns:List Str):Stm→Prop
 | .set n e=>n∈ns∧e.over ns
 | .del n=>n∈ns
 | .shw e=>e.over ns
 | .call e=>e.over ns
 | .raise=>True
 | .imp m n=>m∈ms∧n∈ns
 | .frm m w n=>m∈ms∧w∈ns∧n∈ns
 | .star m=>m∈ms
 | .fn n b=>n∈ns∧overL ms ns b
 | .ite e b o=>e.over ns∧overL ms ns b∧overL ms ns o
 | .tri _ b h=>overL ms ns b∧overL ms ns h
def overL(ms ns:List Str):List Stm→Prop
 | []=>True
 | s :: r=>s.over ms ns∧overL ms ns r
end
theorem ZcO(ms ns:List Str):∀ b:List Stm,overL ms ns b↔∀ s∈b,s.over ms ns
 | []=>by simp[overL]
 | s :: r=>by simp[overL,ZcO ms ns r]
mutual
def Stm.nar:Stm→Prop
 | .fn _ b=>b.length ≤ 2∧narL b
 | .ite _ b o=>b.length ≤ 2∧o.length ≤ 2∧narL b∧narL o
 | .tri _ b h=>b.length ≤ 2∧h.length ≤ 2∧narL b∧narL h
 | _=>True
def narL:List Stm→Prop
 | []=>True
 | s :: r=>s.nar∧narL r
end
theorem Zea:∀ b:List Stm,narL b↔∀ s∈b,s.nar
 | []=>by simp[narL]
 | s :: r=>by simp[narL,Zea r]
theorem ZlG:∀ s:Stm,1 ≤ s.cnt:=fun s=>by cases s <;> simp[Stm.cnt]
theorem Zeb{b:List Stm}(h:cntL b=0):b=[]:=by
 cases b with
 | nil=>rfl
 | cons s r=>have:=ZlG s; simp only[cntL]at h; omega
theorem ZlH{s:Stm}(h:s.cnt ≤ 1):s.nar:=by
 cases s with
 | fn x b=>simp only[Stm.cnt]at h; rw[Zeb (show cntL b=0 by omega)]; simp[Stm.nar,narL]
 | ite e b o=>simp only[Stm.cnt]at h; rw[Zeb (show cntL b=0 by omega),Zeb (show cntL o=0 by omega)]; simp[Stm.nar,narL]
 | tri k b o=>simp only[Stm.cnt]at h; rw[Zeb (show cntL b=0 by omega),Zeb (show cntL o=0 by omega)]; simp[Stm.nar,narL]
 | _=>trivial
theorem Zfq{b:List Stm}(h:cntL b ≤ 1):b.length ≤ 2∧narL b:=by
 cases b with
 | nil=>exact⟨YR _,trivial⟩
 | cons s r =>
   have:=ZlG s
   simp only[cntL]at h
   rw[Zeb (show cntL r=0 by omega)]
   exact⟨by simp,ZlH (by omega),trivial⟩
theorem Zoo{s:Stm}(h:s.cnt ≤ 2):s.nar:=by
 cases s with
 | fn x b=>simp only[Stm.cnt]at h; exact Zfq (by omega)
 | ite e b o=>simp only[Stm.cnt]at h; have h1:=Zfq (b:=b) (by omega); have h2:=Zfq (b:=o) (by omega); exact⟨h1.1,h2.1,h1.2,h2.2⟩
 | tri k b o=>simp only[Stm.cnt]at h; have h1:=Zfq (b:=b) (by omega); have h2:=Zfq (b:=o) (by omega); exact⟨h1.1,h2.1,h1.2,h2.2⟩
 | _=>trivial
def noMod:Str := "nomodule"
theorem Zmy:okN noMod:=ZiJ (by decide +kernel)
def stN:Nat→Nat
 | 0=>13 | 1=>3 | _=>1
structure DSt(ms ns:List Str)(d:Nat)(s:Stm):Prop where
 wf:s.wf
 over:s.over (noMod :: ms) ns
 dep:s.dep + d ≤ 2
 cnt:s.cnt ≤ stN d
 nar:s.nar
theorem DSt.leaf{ms ns:List Str}{d:Nat}{s:Stm}(w:s.wf)(o:s.over (noMod :: ms) ns)(d2:d ≤ 2)(e:s.dep=0)(c:s.cnt=1):DSt ms ns d s :=
 ⟨w,o,by omega,by rw[c]; have:d=0∨d=1∨d=2:=by omega
                  rcases this with rfl | rfl | rfl <;> decide,ZlH (by omega)⟩
def Zcq(K:YC):Sp:=fun vs H Q _=>∃ h c ml nl ms ns,vs=[.ref h,.ref ml,.ref nl]∧Drw H h c∧NL H h c ml ms∧NL H h c nl ns ∧
 ∀ v s H',Im K H' v (Stm.d s)→(∀ d,d ≤ 2→DSt ms ns d s)→Zb [h,c] H H'→Drw H' h c→NL H' h c ml ms→NL H' h c nl ns→Q v H'
def Zec(K:YC)  : TS:=(Xb (Xm (tIf (Xe (tOp Zl7 (Xo (Zd K) [] E0 (YV (YU 0) (YV (tC (.int 12)) Y1))) (tC (.int 0)))) (tOp (rIx K) (YU 1) (Xo (Zd K) [] E0 (YV (YU 0) (YV (tCB (rLen K) (YV (YU 1) Y1)) Y1)))) (tC (.str "nomodule"))) (Y6 3))
 (Xb (tPar3 4 5 6 (YV (tOp (rIx K) (YU 2) (Xo (Zd K) [] E0 (YV (YU 0) (YV (tCB (rLen K) (YV (YU 2) Y1)) Y1)))) (YV (tOp (rIx K) (YU 2) (Xo (Zd K) [] E0 (YV (YU 0) (YV (tCB (rLen K) (YV (YU 2) Y1)) Y1)))) (YV (Xo (Zd K) [] E0 (YV (YU 0) (YV (tC (.int 5)) Y1))) Y1))))
 (Xb (Xk (Xe (tOp ZkZ (YU 6) (tC (.int 2)))) (Xj (Zf K (YV (tC (.str "\x69mport")) (YV (YU 3) (YV (YU 4) Y1))))) Xq)
 (Xj (tIf (Xe (tOp ZkZ (YU 6) (tC (.int 4)))) (Zf K (YV (tC (.str "from")) (YV (YU 3) (YV (YU 5) (YV (YU 4) Y1))))) (Zf K (YV (tC (.str "star")) (YV (YU 3) Y1))))))))
def ZkN:List Str:=["_law_h", "_law_modules", "_law_names_here", "_law_target", "_law_name_here", "_law_wanted", "_law_kind"]
theorem Zmz{K:YC}{H:Hp}{Q:VK}{E:XK}{h c ml:YF}{ms:List Str}{u:Int}(D:Drw H h c)(M:NL H h c ml ms)(q:∀ x H',x∈noMod :: ms→okN x→Zb [h,c] H H'→Drw H' h c→Q (.str x) H') :
  if decide (0 < u)=true then rLen K [.ref ml] H (fun x H1=>Zd K [.ref h,x] H1 (fun y H2=>rIx K (.ref ml) y H2 Q) E)else Q (.str (YP "nomodule")) H :=
 Zbv (fun _=>M.draw D fun x H' m o k D' _=>q x H' (Yf _ m) o k D') fun _=>q _ H Yg Zmy (Zb.refl _ _) D
theorem ZhZ{K:YC}(vs:List V)(H:Hp)(Q:VK)(E:XK)(h:Zcq K vs H Q E):Zec K { nx:=fun _ H'=>Q .non H',rt:=Q } (start ZkN vs) H:=by
 obtain⟨h,c,ml,nl,ms,ns,rfl,D,M,N,q⟩:=h
 show Zec K _ [some (.ref h),some (.ref ml),some (.ref nl),none,none,none,none] H
 unfold Zec
 row_readAll go
 refine Zf2 D (by decide) (by decide) fun u H1 u0 u1 k1 D1=>?_
 row_readAll go
 refine Zmz D1 (M.keep k1) fun t H2 mt ot k2 D2=>?_
 have k12:KC [h,c] H H2:=⟨k1.trans k2⟩
 row_readAll go
 refine(N.keep k12.k).draw D2 fun x H3 mx ox k3 D3 N3=>?_
 row_readAll go
 refine N3.draw D3 fun y H4 my oy k4 D4 N4=>?_
 row_readAll go
 refine Zf2 D4 (by decide) (by decide) fun w H5 w0 w1 k5 D5=>?_
 have k15:KC [h,c] H H5:=⟨((k12.k.trans k3).trans k4).trans k5⟩
 row_readAll go
 have fin:∀ (p:YF) (s:Stm) (H6:Hp),Zb [] H5 H6→Im K H6 (.ref p) s.d→s.wf→s.over (noMod :: ms) ns→s.dep=0→s.cnt=1→Q (.ref p) H6:=fun p s H6 k6 i w o e1 e2=>by
  have kk:Zb [h,c] H H6:=k15.k.step0 k6
  exact q (.ref p) s H6 i (fun d hd=>.leaf w o hd e1 e2) kk (D5.k0 k6) (M.keep kk) (N.keep kk)
 refine Zbv (fun h2=>?_) (fun h2=>?_)
 ·row_readAll go
  refine Zj (by row_readAll ln) fun p H6 f6 k6 g6=>?_
  refine fin p (.imp t x) H6 k6 ?_ (by simp only[Stm.wf]; exact⟨ot,ox⟩) (by simp only[Stm.over]; exact⟨mt,mx⟩) rfl rfl
  simp only[Stm.d]
  exact .tup g6 (.cons (.str _) (.cons (.str _) (.cons (.str _) .nil)))
 row_readAll go
 refine Zbv (fun h4=>?_) (fun h4=>?_)
 ·row_readAll go
  refine Zj (by row_readAll ln) fun p H6 f6 k6 g6=>?_
  refine fin p (.frm t y x) H6 k6 ?_ (by simp only[Stm.wf]; exact⟨ot,oy,ox⟩) (by simp only[Stm.over]; exact⟨mt,my,mx⟩) rfl rfl
  simp only[Stm.d]
  exact .tup g6 (.cons (.str _) (.cons (.str _) (.cons (.str _) (.cons (.str _) .nil))))
 ·row_readAll go
  refine Zj (by row_readAll ln) fun p H6 f6 k6 g6=>?_
  refine fin p (.star t) H6 k6 ?_ (by simp only[Stm.wf]; exact ot) (by simp only[Stm.over]; exact mt) rfl rfl
  simp only[Stm.d]
  exact .tup g6 (.cons (.str _) (.cons (.str _) .nil))
structure MN(H:Hp)(h c ml nl:YF)(ms ns:List Str):Prop where
 d:Drw H h c
 m:NL H h c ml ms
 n:NL H h c nl ns
theorem MN.keep{H H':Hp}{h c ml nl:YF}{ms ns:List Str}(x:MN H h c ml nl ms ns)(k:Zb [h,c] H H')(d:Drw H' h c):MN H' h c ml nl ms ns:=⟨d,x.m.keep k,x.n.keep k⟩
theorem MN.k0{H H':Hp}{h c ml nl:YF}{ms ns:List Str}(x:MN H h c ml nl ms ns)(k:Zb [] H H'):MN H' h c ml nl ms ns:=⟨x.d.k0 k,x.m.k0 k,x.n.k0 k⟩
def Z0(K:YC)(n:Nat):Sp:=fun vs H Q _=>∃ h c ml nl ms ns,∃ d:Nat,vs=[.ref h,.ref ml,.ref nl,.int d]∧MN H h c ml nl ms ns∧d ≤ 2∧2 < n + d ∧
 ∀ v s H',Im K H' v (Stm.d s)→DSt ms ns d s→Zb [h,c] H H'→MN H' h c ml nl ms ns→Q v H'
def Z1(K:YC)(n:Nat):Sp:=fun vs H Q _=>∃ h c ml nl ms ns,∃ d most:Nat,vs=[.ref h,.ref ml,.ref nl,.int d,.int most]∧MN H h c ml nl ms ns∧d ≤ 2∧2 < n + d∧most ≤ 1000 ∧
 ∀ v b H',Im K H' v (.tuple (blkD b))→(∀ s∈b,DSt ms ns d s)→b.length ≤ most→Zb [h,c] H H'→MN H' h c ml nl ms ns→Q v H'
def Zbx(K:YC)(sp:Sp):TS:=(Xb (tPar 7 8 (YV (Xo (Zd K) [] E0 (YV (YU 0) (YV (tC (.int 17)) Y1))) (YV (tOp (rIx K) (YU 2) (Xo (Zd K) [] E0 (YV (YU 0) (YV (tCB (rLen K) (YV (YU 2) Y1)) Y1)))) Y1)))
 (Xb (Xk (Xe (tOp ZkZ (YU 7) (tC (.int 5)))) (Xj (Xo (Zcq K) [] E0 (YV (YU 0) (YV (YU 1) (YV (YU 2) Y1))))) Xq)
 (Xb (Xk (tOr (Xe (tOp ZkZ (YU 7) (tC (.int 8)))) (tAnd (Xe (tOp Zl7 (YU 7) (tC (.int 12)))) (Xe (tOp Zl7 (YU 3) (tC (.int 1)))))) (Xj (Zf K (YV (tC (.str "set")) (YV (YU 8) (YV (Xo (ZN K 5) [] E0 (YV (YU 0) (YV (YU 2) (YV (tC (.int 2)) Y1)))) Y1))))) Xq)
 (Xb (Xk (Xe (tOp ZkZ (YU 7) (tC (.int 11)))) (Xj (tOp (rIx K) (Zbi (YV (Zf K (YV (tC (.str "del")) (YV (YU 8) Y1))) (YV (Zf K (YV (tC (.str "show")) (YV (Xo (ZN K 5) [] E0 (YV (YU 0) (YV (YU 2) (YV (tC (.int 2)) Y1)))) Y1))) (YV (Zf K (YV (tC (.str "show")) (YV (Zf K (YV (tC (.str "name")) (YV (YU 8) Y1))) Y1))) Y1)))) (tOp Zg3 (YU 7) (tC (.int 8))))) Xq)
 (Xb (Xk (Xe (tOp (ZbB K) (YU 7) (tC (.int 11)))) (Xj (Zf K (YV (tC (.str "call")) (YV (tIf (Xe (tOp Zl7 (Xo (Zd K) [] E0 (YV (YU 0) (YV (tC (.int 4)) Y1))) (tC (.int 0)))) (Zf K (YV (tC (.str "name")) (YV (YU 8) Y1))) (Xo (ZN K 5) [] E0 (YV (YU 0) (YV (YU 2) (YV (tC (.int 1)) Y1))))) Y1)))) Xq)
 (Xb (Xk (Xe (tOp (ZbB K) (YU 7) (tC (.int 12)))) (Xj (tIf (Xe (tOp (ZbB K) (Xo (Zd K) [] E0 (YV (YU 0) (YV (tC (.int 3)) Y1))) (tC (.int 0)))) (Zf K (YV (tC (.str "raise")) Y1)) (Zf K (YV (tC (.str "show")) (YV (Xo (ZH K) [] E0 (YV (YU 0) Y1)) Y1))))) Xq)
 (Xb (Xm (Xo sp [] E0 (YV (YU 0) (YV (YU 1) (YV (YU 2) (YV (tOp (rAdd K) (YU 3) (tC (.int 1))) (YV (tOp Zg3 (tC (.int 2)) (YU 3)) Y1)))))) (Y6 4))
 (Xb (Xm (Xo sp [] E0 (YV (YU 0) (YV (YU 1) (YV (YU 2) (YV (tOp (rAdd K) (YU 3) (tC (.int 1))) (YV (tOp Zg3 (tC (.int 2)) (YU 3)) Y1)))))) (Y6 5))
 (Xb (Xk (Xe (tOp (ZbB K) (YU 7) (tC (.int 13)))) (Xj (Zf K (YV (tC (.str "def")) (YV (YU 8) (YV (YU 4) Y1))))) Xq)
 (Xb (Xk (Xe (tOp (ZbB K) (YU 7) (tC (.int 14)))) (Xj (Zf K (YV (tC (.str "if")) (YV (Xo (ZN K 5) [] E0 (YV (YU 0) (YV (YU 2) (YV (tC (.int 1)) Y1)))) (YV (YU 4) (YV (YU 5) Y1)))))) Xq)
 (Xb (Xm (Zbi (YV (tC (.str "absent")) (YV (tC (.str "kind")) (YV (tC (.str "missing")) (YV (tC (.str "raised")) (YV (tC (.str "unbound")) (YV (tC (.str "any")) (YV (tC (.str "any")) (YV (tC (.str "any")) Y1))))))))) (Y6 6))
 (Xj (Zf K (YV (tC (.str "try")) (YV (tOp (rIx K) (YU 6) (Xo (Zd K) [] E0 (YV (YU 0) (YV (tC (.int 8)) Y1)))) (YV (YU 4) (YV (YU 5) Y1)))))))))))))))))
def ZgJ:List Str:=["_law_h", "_law_modules", "_law_names_here", "_law_depth", "_law_block", "_law_other", "_law_kinds", "_law_kind", "_law_name_here"]
def Zed(K:YC)(sp:Sp):TS:=(Xj (tThen (tLc (iRng1 (YV (Xo (Zd K) [] E0 (YV (YU 0) (YV (tOp (rAdd K) (YU 4) (tC (.int 1))) Y1))) Y1)) (Y6 5) tYes (Xo sp [] E0 (YV (YU 0) (YV (YU 1) (YV (YU 2) (YV (YU 3) Y1))))) [5]) (kTup K)))
def ZkO:List Str:=["_law_h", "_law_modules", "_law_names_here", "_law_depth", "_law_most", "_law_k"]
theorem Zke{K:YC}{n:Nat}{H:Hp}{Q:VK}{E:XK}{h c ml nl:YF}{ms ns:List Str}{d most:Nat}{di mi:Int}(x:MN H h c ml nl ms ns)(ed:di=(d:Nat))(em:mi=(most:Nat))(d2:d ≤ 2)(dn : 2 < n + d)(m:most ≤ 1000)
  (q:∀ v b H',Im K H' v (.tuple (blkD b))→(∀ s∈b,DSt ms ns d s)→b.length ≤ most→Zb [h,c] H H'→MN H' h c ml nl ms ns→Q v H'):Z1 K n [.ref h,.ref ml,.ref nl,.int di,.int mi] H Q E:=by
 subst ed em
 exact⟨h,c,ml,nl,ms,ns,d,most,rfl,x,d2,dn,m,q⟩
theorem ZgK{ms ns:List Str}{d:Nat}{b:List Stm}(h:∀ s∈b,DSt ms ns d s):wfL b∧overL (noMod :: ms) ns b∧depL b + d ≤ max 2 d∧cntL b ≤ b.length * stN d:=by
 induction b with
 | nil=>simp[wfL,overL,depL,cntL]; omega
 | cons x r ih =>
   obtain⟨a1,a2,a3,a4⟩:=ih fun s m=>h s (Yf _ m)
   have hx:=h x Yg
   have:=hx.dep
   have:=hx.cnt
   refine⟨by simp only[wfL]; exact⟨hx.wf,a1⟩,by simp only[overL]; exact⟨hx.over,a2⟩,by simp only[depL]; omega,?_⟩
   simp only[cntL,Yd,Nat.succ_mul]
   omega
theorem Zfr{ms ns:List Str}{d:Nat}{b:List Stm}(h:∀ s∈b,DSt ms ns d s):narL b:=(Zea b).mpr fun s m=>(h s m).nar
def ZiO:List Str:=["absent", "kind", "missing", "raised", "unbound", "any", "any", "any"]
theorem ZlI:∀ x∈ZiO,x∈kinds:=by
 intro x m
 unfold ZiO at m
 unfold kinds
 simp only[Yn,Ya,or_false]at m ⊢
 rcases m with rfl | rfl | rfl | rfl | rfl | rfl | rfl | rfl <;> simp
theorem Ztv{p8 p12 p1:Prop} [Decidable p8] [Decidable p12] [Decidable p1] {A R:Prop} (ha:A) (hr:¬ p8→¬ (p12∧p1)→R) :
  if decide p8=true then A else if decide p12=true then(if decide p1=true then A else R)else R:=by
 refine Zbv (fun _=>ha) fun h8=>?_
 refine Zbv (fun h12=>Zbv (fun _=>ha) fun h1=>hr h8 fun z=>h1 z.2) fun h12=>hr h8 fun z=>h12 z.1
theorem Zfs{K:YC}{n:Nat}(vs:List V)(H:Hp)(Q:VK)(E:XK)(h:Z0 K (n + 1) vs H Q E):Zbx K (Z1 K n) { nx:=fun _ H'=>Q .non H',rt:=Q } (start ZgJ vs) H:=by
 obtain⟨h,c,ml,nl,ms,ns,d,rfl,X,d2,dn,q⟩:=h
 show Zbx K _ _ [some (.ref h),some (.ref ml),some (.ref nl),some (.int d),none,none,none,none,none] H
 unfold Zbx
 row_readAll go
 refine Zf2 X.d (by decide) (by decide) fun u H1 u0 u1 k1 D1=>?_
 have X1:=X.keep k1 D1
 row_readAll go
 refine X1.n.draw D1 fun z H2 mz oz k2 D2 _=>?_
 have X2:=X1.keep k2 D2
 have k12:KC [h,c] H H2:=⟨k1.trans k2⟩
 row_readAll go
 have leaf:∀ (p:YF) (s:Stm) (H6:Hp),Zb [h,c] H2 H6→MN H6 h c ml nl ms ns→Im K H6 (.ref p) s.d→s.wf→s.over (noMod :: ms) ns→s.dep=0→s.cnt=1→Q (.ref p) H6:=fun p s H6 k6 X6 i w o e1 e2=>q (.ref p) s H6 i (.leaf w o d2 e1 e2) (k12.k.trans k6) X6
 refine Zbv (fun h5=>?_) (fun h5=>?_)
 ·row_readAll go
  exact⟨h,c,ml,nl,ms,ns,rfl,X2.d,X2.m,X2.n,fun v s H3 i3 s3 k3 D3 M3 N3=>q v s H3 i3 (s3 d d2) (k12.k.trans k3) ⟨D3,M3,N3⟩⟩
 row_readAll go
 refine Ztv ?_ fun h8 h12=>?_
 ·row_readAll go
  refine ZoS X2.d X2.n (by decide) (by decide) fun v e H4 i4 w4 o4 k4 D4 N4=>?_
  refine Zj (by row_readAll ln) fun p5 H5 f5 k5 g5=>?_
  refine leaf p5 (.set z e) H5 (k4.step0 k5) ((X2.keep k4 D4).k0 k5) ?_ (by simp only[Stm.wf]; exact⟨oz,w4.mono (by decide)⟩) (by simp only[Stm.over]; exact⟨mz,o4⟩) rfl rfl
  simp only[Stm.d]
  exact .tup g5 (.cons (.str _) (.cons (.str _) (.cons (i4.mono k5) .nil)))
 row_readAll go
 refine Zbv (fun h11=>?_) (fun h11=>?_)
 ·row_readAll go
  refine Zj (by row_readAll ln) fun p4 H4 f4 k4 g4=>?_
  row_readAll go
  have X4:=X2.k0 k4
  refine ZoS X4.d X4.n (by decide) (by decide) fun v5 e5 H5 i5 w5 o5 k5 D5 N5=>?_
  refine Zj (by row_readAll ln) fun p6 H6 f6 k6 g6=>?_
  row_readAll go
  refine Zj (by row_readAll ln) fun p7 H7 f7 k7 g7=>?_
  row_readAll go
  refine Zj (by row_readAll ln) fun p8 H8 f8 k8 g8=>?_
  refine Zbr (by row_readAll ln) fun pa Ha fa ka ga=>?_
  row_readAll go
  have k6a:Zb [] H6 Ha:=(k7.trans k8).trans ka
  have Xa:MN Ha h c ml nl ms ns:=((X4.keep k5 D5).k0 k6).k0 k6a
  have kk:Zb [h,c] H2 Ha:=((k4.nil.trans k5).step0 k6).step0 k6a
  have hu:u=8∨u=9∨u=10:=by omega
  rcases hu with rfl | rfl | rfl
  ·refine Zaz (SqL.of ga) rfl ?_
   refine leaf p4 (.del z) Ha kk Xa ?_ (by simp only[Stm.wf]; exact oz) (by simp only[Stm.over]; exact mz) rfl rfl
   simp only[Stm.d]
   exact .tup (k6a.sqT (k6.sqT (k5.sqT g4))) (.cons (.str _) (.cons (.str _) .nil))
  ·refine Zaz (SqL.of ga) rfl ?_
   refine leaf p6 (.shw e5) Ha kk Xa ?_ (by simp only[Stm.wf]; exact w5.mono (by decide)) (by simp only[Stm.over]; exact o5) rfl rfl
   simp only[Stm.d]
   exact .tup (k6a.sqT g6) (.cons (.str _) (.cons ((i5.mono k6).mono k6a) .nil))
  ·refine Zaz (SqL.of ga) rfl ?_
   refine leaf p8 (.shw (.nm z)) Ha kk Xa ?_ (by simp only[Stm.wf]; exact oz) (by simp only[Stm.over]; exact mz) rfl rfl
   simp only[Stm.d,Ex.d]
   exact .tup (ka.sqT g8) (.cons (.str _) (.cons (.tup (ka.sqT (k8.sqT g7)) (.cons (.str _) (.cons (.str _) .nil))) .nil))
 row_readAll go
 refine Zbv (fun h11b=>?_) (fun h11b=>?_)
 ·row_readAll go
  refine Zf2 X2.d (by decide) (by decide) fun w H3 w0 w1 k3 D3=>?_
  have X3:=X2.keep k3 D3
  row_readAll go
  refine Zbv (fun h0=>?_) (fun h0=>?_)
  ·row_readAll go
   refine Zj (by row_readAll ln) fun p7 H7 f7 k7 g7=>?_
   row_readAll go
   refine Zj (by row_readAll ln) fun p8 H8 f8 k8 g8=>?_
   refine leaf p8 (.call (.nm z)) H8 ((k3.step0 k7).step0 k8) ((X3.k0 k7).k0 k8) ?_ (by simp only[Stm.wf]; exact oz) (by simp only[Stm.over]; exact mz) rfl rfl
   simp only[Stm.d,Ex.d]
   exact .tup g8 (.cons (.str _) (.cons (.tup (k8.sqT g7) (.cons (.str _) (.cons (.str _) .nil))) .nil))
  ·row_readAll go
   refine ZoS X3.d X3.n (by decide) (by decide) fun v5 e5 H5 i5 w5 o5 k5 D5 N5=>?_
   refine Zj (by row_readAll ln) fun p8 H8 f8 k8 g8=>?_
   refine leaf p8 (.call e5) H8 ((k3.trans k5).step0 k8) ((X3.keep k5 D5).k0 k8) ?_ (by simp only[Stm.wf]; exact w5.mono (by decide)) (by simp only[Stm.over]; exact o5) rfl rfl
   simp only[Stm.d]
   exact .tup g8 (.cons (.str _) (.cons (i5.mono k8) .nil))
 row_readAll go
 refine Zbv (fun h12b=>?_) (fun h12b=>?_)
 ·row_readAll go
  refine Zf2 X2.d (by decide) (by decide) fun w H3 w0 w1 k3 D3=>?_
  have X3:=X2.keep k3 D3
  row_readAll go
  refine Zbv (fun h0=>?_) (fun h0=>?_)
  ·row_readAll go
   refine Zj (by row_readAll ln) fun p8 H8 f8 k8 g8=>?_
   refine leaf p8 .raise H8 (k3.step0 k8) (X3.k0 k8) ?_ (by simp only[Stm.wf]) (by simp only[Stm.over]) rfl rfl
   simp only[Stm.d]
   exact .tup g8 (.cons (.str _) .nil)
  ·row_readAll go
   refine Zse X3.d fun i H5 oi k5 D5=>?_
   refine Zj (by row_readAll ln) fun p8 H8 f8 k8 g8=>?_
   refine leaf p8 (.shw (.int i)) H8 ((k3.trans k5).step0 k8) ((X3.keep k5 D5).k0 k8) ?_ (by simp only[Stm.wf]; exact oi) (by simp only[Stm.over,Ex.over]) rfl rfl
   simp only[Stm.d,Ex.d]
   exact .tup g8 (.cons (.str _) (.cons (.int _) .nil))
 have d1:d ≤ 1:=by omega
 row_readAll go
 refine Zke (d:=d + 1) (most:=2 - d) X2 (by omega) (by omega) (by omega) (by omega) (by omega) fun v6 b6 H6 i6 r6 l6 k6 X6=>?_
 row_readAll go
 refine Zke (d:=d + 1) (most:=2 - d) X6 (by omega) (by omega) (by omega) (by omega) (by omega) fun v7 b7 H7 i7 r7 l7 k7 X7=>?_
 row_readAll go
 have k17:KC [h,c] H H7:=⟨(k12.k.trans k6).trans k7⟩
 have i67:=i6.mono k7
 obtain⟨w6,ov6,dp6,ct6⟩:=ZgK r6
 obtain⟨w7,ov7,dp7,ct7⟩:=ZgK r7
 have cc:cntL b6 + cntL b7 + 1 ≤ stN d∧cntL b6 + 1 ≤ stN d:=by
  have:d=0∨d=1:=by omega
  rcases this with rfl | rfl
  ·have e1:stN (0 + 1)=3:=rfl
   have e2:stN 0=13:=rfl
   rw[e1]at ct6 ct7
   rw[e2]
   omega
  ·have e1:stN (1 + 1)=1:=rfl
   have e2:stN 1=3:=rfl
   rw[e1]at ct6 ct7
   rw[e2]
   omega
 refine Zbv (fun h13=>?_) (fun h13=>?_)
 ·row_readAll go
  refine Zj (by row_readAll ln) fun p9 H9 f9 k9 g9=>?_
  refine q (.ref p9) (.fn z b6) H9 ?_ ⟨by simp only[Stm.wf]; exact⟨oz,w6⟩,by simp only[Stm.over]; exact⟨mz,ov6⟩,by simp only[Stm.dep]; omega,by simp only[Stm.cnt]; omega,by exact⟨by omega,Zfr r6⟩⟩ (k17.k.step0 k9) (X7.k0 k9)
  simp only[Stm.d]
  exact .tup g9 (.cons (.str _) (.cons (.str _) (.cons (i67.mono k9) .nil)))
 row_readAll go
 refine Zbv (fun h14=>?_) (fun h14=>?_)
 ·row_readAll go
  refine ZoS X7.d X7.n (by decide) (by decide) fun ve e Hb ib wb ob kb Db Nb=>?_
  refine Zj (by row_readAll ln) fun p9 H9 f9 k9 g9=>?_
  refine q (.ref p9) (.ite e b6 b7) H9 ?_ ⟨by simp only[Stm.wf]; exact⟨wb.mono (by decide),w6,w7⟩,by simp only[Stm.over]; exact⟨ob,ov6,ov7⟩,by simp only[Stm.dep]; omega,by simp only[Stm.cnt]; omega,by exact⟨by omega,by omega,Zfr r6,Zfr r7⟩⟩ ((k17.k.trans kb).step0 k9) ((X7.keep kb Db).k0 k9)
  simp only[Stm.d]
  exact .tup g9 (.cons (.str _) (.cons (ib.mono k9) (.cons ((i67.mono kb).mono k9) (.cons ((i7.mono kb).mono k9) .nil))))
 row_readAll go
 refine Zbr (by row_readAll ln) fun p9 H9 f9 k9 g9=>?_
 have np:=X7.d.ne1 f9
 row_readAll go
 refine Zf2 (X7.d.k0 k9) (by decide) (by decide) fun w Ha w0 w1 ka Da=>?_
 have ga:=ka.obj _ _ (by simp[np.1,np.2]) g9
 obtain⟨y2,hy,ha⟩:=ZiI (xs:=ZiO.map V.str) w0 (by show w < 8; exact w1)
 rw[Ym]at hy
 cases hz:ZiO[w.toNat]? with
 | none=>rw[hz]at hy; cases hy
 | some kd =>
 rw[hz]at hy
 cases hy
 refine Zaz (xs:=ZiO.map V.str) (SqL.of ga) ha ?_
 refine Zj (by row_readAll ln) fun pc Hc fc kc gc=>?_
 refine q (.ref pc) (.tri kd b6 b7) Hc ?_ ⟨by simp only[Stm.wf]; exact⟨ZlI _ (Yj hz),w6,w7⟩,by simp only[Stm.over]; exact⟨ov6,ov7⟩,by simp only[Stm.dep]; omega,by simp only[Stm.cnt]; omega,by exact⟨by omega,by omega,Zfr r6,Zfr r7⟩⟩ (((k17.k.step0 k9).trans ka).step0 kc) (((X7.k0 k9).keep ka Da).k0 kc)
 simp only[Stm.d]
 exact .tup gc (.cons (.str _) (.cons (.str _) (.cons (((i67.mono k9).mono ka).mono kc) (.cons (((i7.mono k9).mono ka).mono kc) .nil))))
theorem Zh0{K:YC}{n:Nat}(vs:List V)(H:Hp)(Q:VK)(E:XK)(h:Z1 K n vs H Q E):Zed K (Z0 K n) { nx:=fun _ H'=>Q .non H',rt:=Q } (start ZkO vs) H:=by
 obtain⟨h,c,ml,nl,ms,ns,d,most,rfl,X,d2,dn,hm,q⟩:=h
 show Zed K _ _ [some (.ref h),some (.ref ml),some (.ref nl),some (.int d),some (.int most),none] H
 unfold Zed
 have sl:=Z3
 row_readAll go
 refine Zf2 X.d (by omega) (by omega) fun u H2 u0 u1 k2 D2=>?_
 have X2:=X.keep k2 D2
 row_readAll go
 refine⟨by omega,by omega,?_⟩
 refine ZhE u.toNat (fun Dd i H'=>∃ (vs:List V) (b:List Stm),H' Dd=some (.lst vs)∧ImAll K H' vs (blkD b)∧b.length=i∧(∀ s∈b,DSt ms ns d s)∧Zb [h,c] H2 H'∧MN H' h c ml nl ms ns) ?_ ?_ ?_ ?_ ?_
 ·exact fun Dd H6 _ k6 g6=>⟨[],[],g6,by simp[blkD]; exact .nil,rfl,by simp,k6.nil,X2.k0 k6⟩
 ·exact fun Dd H6 _=>YQ _
 ·exact fun Dd i H6 hi _=>hi
 ·rintro Dd i H6 x H7 fD hi ⟨vs,b,gv,iv,lb,ok,k6,X6⟩ ⟨rfl,rfl⟩
  row_readAll go
  refine⟨h,c,ml,nl,ms,ns,d,rfl,X6,d2,dn,fun v s H8 i8 r8 k8 X8=>?_⟩
  have npD:=X2.d.ne1 fD
  have gl8:=k8.obj _ _ (by simp[npD.1,npD.2]) gv
  have kp:Zb [Dd] H8 (upd H8 Dd (.lst (vs++[v]))):=Zb.put gl8 True.intro
  have nlD:nl≠Dd:=fun e=>by
   subst e
   have:=X2.n.at_
   rw[fD]at this; cases this
  have mlD:ml≠Dd:=fun e=>by
   subst e
   have:=X2.m.at_
   rw[fD]at this; cases this
  refine⟨vs,gl8,by have:=iv.length; rw[ZcZ]at this; omega,vs++[v],b++[s],Y_,?_,by simp[lb],?_,(k6.trans k8).step1 kp fD,X8.d.keep kp (by simp[Ne.symm npD.1]) (by simp[Ne.symm npD.2]),⟨kp.obj _ _ (by simp[mlD]) X8.m.at_,X8.m.ne,X8.m.few,X8.m.ok,X8.m.n1,X8.m.n2⟩,⟨kp.obj _ _ (by simp[nlD]) X8.n.at_,X8.n.ne,X8.n.few,X8.n.ok,X8.n.n1,X8.n.n2⟩⟩
  ·have e:blkD (b++[s])=blkD b++[s.d]:=by simp[Z_]
   rw[e]
   exact((iv.mono k8).snoc i8).mono kp
  ·intro a m
   simp only[Yh,Ye]at m
   rcases m with m | rfl
   ·exact ok a m
   ·exact r8
 ·rintro Dd H6 fD ⟨vs,b,gv,iv,lb,ok,k6,X6⟩
  refine ZhD (SqL.of gv) fun l H7 fl k7 gl=>?_
  exact q (.ref l) b H7 (.tup gl (iv.mono k7)) ok (by omega) ((k2.trans k6).trans k7.nil) (X6.k0 k7)
theorem MN.put{H H':Hp}{h c ml nl p:YF}{ms ns:List Str}(x:MN H h c ml nl ms ns)(k:Zb [p] H H')(n1:p≠h)(n2:p≠c)(n3:p≠ml)(n4:p≠nl):MN H' h c ml nl ms ns :=
 ⟨x.d.keep k (by simp[Ne.symm n1]) (by simp[Ne.symm n2]),⟨k.obj _ _ (by simp[Ne.symm n3]) x.m.at_,x.m.ne,x.m.few,x.m.ok,x.m.n1,x.m.n2⟩,⟨k.obj _ _ (by simp[Ne.symm n4]) x.n.at_,x.n.ne,x.n.few,x.n.ok,x.n.n1,x.n.n2⟩⟩
theorem MN.fresh{H:Hp}{h c ml nl p:YF}{ms ns:List Str}(x:MN H h c ml nl ms ns)(f:H p=none):p≠h∧p≠c∧p≠ml∧p≠nl:=by
 have h1:=x.d.ne1 f
 refine⟨h1.1,h1.2,fun e=>?_,fun e=>?_⟩
 ·subst e; have:=x.m.at_; rw[f]at this; cases this
 ·subst e; have:=x.n.at_; rw[f]at this; cases this
structure Zop(ms ns:List Str)(b:List Stm):Prop where
 wf:wfL b
 over:overL (noMod :: ms) ns b
 dep:depL b ≤ 1
 cnt:cntL b ≤ 2 * b.length
 nar:narL b
theorem Zop.snoc{ms ns:List Str}{b:List Stm}{s:Stm}(x:Zop ms ns b)(w:s.wf)(o:s.over (noMod :: ms) ns)(d:s.dep ≤ 1)(c:s.cnt ≤ 2):Zop ms ns (b++[s]):=by
 refine⟨(ZdE _).mpr ?_,(ZcO _ _ _).mpr ?_,?_,?_,(Zea _).mpr ?_⟩
 ·intro t m; simp only[Yh,Ye]at m
  rcases m with m | rfl
  ·exact(ZdE _).mp x.wf t m
  ·exact w
 ·intro t m; simp only[Yh,Ye]at m
  rcases m with m | rfl
  ·exact(ZcO _ _ _).mp x.over t m
  ·exact o
 ·rw[Zjn]; have:=x.dep; omega
 ·rw[ZbJ]; have:=x.cnt; simp[cntL]; omega
 ·intro t m; simp only[Yh,Ye]at m
  rcases m with m | rfl
  ·exact(Zea _).mp x.nar t m
  ·exact Zoo c
def Zah(K:YC):Sp:=fun vs H Q _=>∃ h c ml nl ms ns,vs=[.ref h,.ref ml,.ref nl]∧MN H h c ml nl ms ns ∧
 ∀ v b H',Im K H' v (.tuple (blkD b))→Zop ms ns b→b.length ≤ ns.length→Zb [h,c] H H'→MN H' h c ml nl ms ns→Q v H'
def Zbf(K:YC)  : TS:=(Xb (Xm (Zbi Y1) (Y6 3))
 (Xb (tFor (Zg4 K (YU 2)) (Y6 4) (Xb (Xm (Xo (Zd K) [] E0 (YV (YU 0) (YV (tC (.int 4)) Y1))) (Y6 5))
 (Xb (Xk (Xe (tOp (ZbB K) (YU 5) (tC (.int 1)))) (Xp (tBM K "list" rAppend (YU 3) (YV (Zf K (YV (tC (.str "set")) (YV (YU 4) (YV (Xo (ZH K) [] E0 (YV (YU 0) Y1)) Y1)))) Y1))) Xq)
 (Xk (Xe (tOp (ZbB K) (YU 5) (tC (.int 2)))) (Xp (tBM K "list" rAppend (YU 3) (YV (Zf K (YV (tC (.str "def")) (YV (YU 4) (YV (Xo (Z1 K 3) [] E0 (YV (YU 0) (YV (YU 1) (YV (YU 2) (YV (tC (.int 2)) (YV (tC (.int 1)) Y1)))))) Y1)))) Y1))) Xq))))
 (Xj (tThen (YU 3) (kTup K)))))
def Zf7:List Str:=["_law_h", "_law_modules", "_law_names_here", "_law_found", "_law_name_here", "_law_kind"]
theorem ZeX{K:YC}(vs:List V)(H:Hp)(Q:VK)(E:XK)(h:Zah K vs H Q E):Zbf K { nx:=fun _ H'=>Q .non H',rt:=Q } (start Zf7 vs) H:=by
 obtain⟨h,c,ml,nl,ms,ns,rfl,X,q⟩:=h
 show Zbf K _ [some (.ref h),some (.ref ml),some (.ref nl),none,none,none] H
 unfold Zbf
 have sl:=Z3
 have few:=X.n.few
 row_readAll go
 refine Zbr (by row_readAll ln) fun l H1 f1 k1 g1=>?_
 have X1:=X.k0 k1
 have nf:=X.fresh f1
 row_readAll go
 refine .inl ⟨⟨_,SqL.of X1.n.at_⟩,?_⟩
 refine Zgr (S:=[h,c,l]) (Wk.lst (SqL.of X1.n.at_) (by simp[X.n.n1,X.n.n2,Ne.symm nf.2.2.2])) (fun i σ' H'=>∃ o4 o5 vs b,σ'=[some (.ref h),some (.ref ml),some (.ref nl),some (.ref l),o4,o5]∧H' l=some (.lst vs)∧ImAll K H' vs (blkD b)∧Zop ms ns b∧b.length ≤ i∧Zb [h,c,l] H1 H'∧Zb [h,c] H H'∧MN H' h c ml nl ms ns)
  (fun i σ' H' p=>by obtain⟨_,_,_,_,_,_,_,_,_,k,_,_⟩:=p; exact k)
  ⟨none,none,[],[],rfl,g1,by simp[blkD]; exact .nil,⟨by simp[wfL],by simp[overL],by simp[depL],by simp[cntL],trivial⟩,by simp,Zb.refl _ _,k1.nil,X1⟩ ?_ ?_
 ·rintro i x σ' H2 H3 hx ⟨o4,o5,vs,b,rfl,g2,iv,db,lb,kS,kH,X2⟩ k3
  rw[Ym,Option.map_eq_some_iff]at hx
  obtain⟨z,hz,rfl⟩:=hx
  have mz:=Yj hz
  have oz:=X.n.ok z mz
  have X3:=X2.k0 k3
  row_readAll go
  refine Zf2 X3.d (by decide) (by decide) fun u H4 u0 u1 k4 D4=>?_
  have X4:=X3.keep k4 D4
  have g4:=k4.obj _ _ (by simp[nf.1,nf.2.1]) (k3.obj _ _ Ya g2)
  have kS4:Zb [h,c,l] H1 H4:=kS.trans ((k3.nil.trans k4).mono (by intro a m; simp at m ⊢; rcases m with rfl | rfl <;> simp))
  have kH4:Zb [h,c] H H4:=kH.trans (k3.nil.trans k4)
  have iv4:=(iv.mono k3).mono k4
  have lv:=iv.length
  rw[ZcZ]at lv
  have hi:=Zdl hz
  have add:∀ (p:YF) (s:Stm) (H5:Hp) (R:Hp→Prop) (σ:L2.St),σ = [some (.ref h),some (.ref ml),some (.ref nl),some (.ref l),some (.str z),some (.int u)]→Zb [h,c] H4 H5→MN H5 h c ml nl ms ns→Im K H5 (.ref p) s.d→s.wf→s.over (noMod :: ms) ns→s.dep ≤ 1→s.cnt ≤ 2 →
    (∀ H6,(∃ o4 o5 vs b,σ = [some (.ref h),some (.ref ml),some (.ref nl),some (.ref l),o4,o5]∧H6 l=some (.lst vs)∧ImAll K H6 vs (blkD b)∧Zop ms ns b∧b.length ≤ i + 1∧Zb [h,c,l] H1 H6∧Zb [h,c] H H6∧MN H6 h c ml nl ms ns)→R H6)→rAppend (.ref l) [.ref p] H5 (fun _ H6=>R H6):=by
   intro p s H5 R σ es k5 X5 i5 w o d c2 r
   have g5:=k5.obj _ _ (by simp[nf.1,nf.2.1]) g4
   refine ZcY g5 (by omega) fun H6 k6 g6=>r H6 ⟨_,_,vs++[.ref p],b++[s],es,g6,?_,db.snoc w o d c2,by simp; omega,?_,?_,X5.put k6 nf.1 nf.2.1 nf.2.2.1 nf.2.2.2⟩
   ·have e:blkD (b++[s])=blkD b++[s.d]:=by simp[Z_]
    rw[e]
    exact((iv4.mono k5).snoc i5).mono k6
   ·exact(kS4.trans (k5.mono (by intro a m; simp at m ⊢; rcases m with rfl | rfl <;> simp))).trans (k6.mono (by intro a m; simp at m ⊢; simp[m]))
   ·exact(kH4.trans k5).step1 k6 f1
  row_readAll go
  refine Zbv (fun h1=>?_) (fun h1=>?_)
  ·row_readAll go
   refine⟨.inl ⟨rfl,_,SqL.of g4⟩,?_⟩
   refine Zse X4.d fun j H5 oj k5 D5=>?_
   row_readAll go
   refine Zj (by row_readAll ln) fun p H6 f6 k6 g6=>?_
   refine add p (.set z (.int j)) H6 (fun H6=>Nx _ _ _ H6) _ rfl (k5.step0 k6) ((X4.keep k5 D5).k0 k6) ?_ (by simp only[Stm.wf]; exact⟨oz,oj⟩) (by simp only[Stm.over,Ex.over]; exact⟨mz,trivial⟩) (by simp[Stm.dep]) (by simp[Stm.cnt]) ?_
   ·simp only[Stm.d,Ex.d]
    exact .tup g6 (.cons (.str _) (.cons (.str _) (.cons (.int _) .nil)))
   intro H7 hh
   row_readAll go
   refine Zk2 (by omega) ?_
   row_readAll go
   exact hh
  row_readAll go
  refine Zbv (fun h2=>?_) (fun h2=>?_)
  ·row_readAll go
   refine⟨.inl ⟨rfl,_,SqL.of g4⟩,?_⟩
   refine Zke (d:=2) (most:=1) X4 rfl rfl (by decide) (by decide) (by decide) fun v5 b5 H5 i5 r5 l5 k5 X5=>?_
   row_readAll go
   refine Zj (by row_readAll ln) fun p H6 f6 k6 g6=>?_
   obtain⟨w5,ov5,dp5,ct5⟩:=ZgK r5
   have e1:stN 2=1:=rfl
   rw[e1]at ct5
   refine add p (.fn z b5) H6 _ _ rfl (k5.step0 k6) (X5.k0 k6) ?_ (by simp only[Stm.wf]; exact⟨oz,w5⟩) (by simp only[Stm.over]; exact⟨mz,ov5⟩) (by simp only[Stm.dep]; omega) (by simp only[Stm.cnt]; omega) ?_
   ·simp only[Stm.d]
    exact .tup g6 (.cons (.str _) (.cons (.str _) (.cons (i5.mono k6) .nil)))
   exact fun H7 hh=>hh
  ·row_readAll go
   exact⟨_,_,vs,b,rfl,g4,iv4,db,by omega,kS4,kH4,X4⟩
 ·rintro σ' H2 ⟨o4,o5,vs,b,rfl,g2,iv,db,lb,kS,kH,X2⟩
  row_readAll go
  refine ZhD (SqL.of g2) fun p H7 fl k7 gl=>?_
  exact q (.ref p) b H7 (.tup gl (iv.mono k7)) db (by simpa using lb) (kH.step0 k7) (X2.k0 k7)
structure ZoT(ms ns:List Str)(b:List Stm):Prop where
 wf:wfL b
 over:overL (noMod :: ms) ns b
 dep:depL b ≤ 2
 cnt:cntL b ≤ 58
 nar:narL b
 len:b.length ≤ 9
abbrev Prg:=List (Str×List Stm)
abbrev Zq5(K:YC)(H:Hp)(v:V)(b:List Stm):Prop:=Im K H v (.tuple (blkD b))
def Zbc(K:YC)(H:Hp)(d:YF)(P:Prg):Prop:=∃ m,H d=some (.dK m)∧Zc1 kS (Zq5 K H) m P
theorem Zbc.keep{K:YC}{H H':Hp}{d:YF}{P:Prg}{S:List YF}(x:Zbc K H d P)(k:Zb S H H')(n:d∉S):Zbc K H' d P:=by
 obtain⟨m,h1,h2⟩:=x
 exact⟨m,k.obj _ _ n h1,h2.mono fun v b i=>i.mono k⟩
theorem Zbc.k0{K:YC}{H H':Hp}{d:YF}{P:Prg}(x:Zbc K H d P)(k:Zb [] H H'):Zbc K H' d P:=x.keep k Ya
structure ZdJ(ms ns:List Str)(P:Prg):Prop where
 ndm:ms.Nodup
 ndn:ns.Nodup
 lm:ms.length ≤ 4
 ln:ns.length ≤ 3
 nm:ms≠[]
 nn:ns≠[]
 okm:∀ x∈ms,okN x
 okn:∀ x∈ns,okN x
 keys:P.map (·.1)=ms
 blk:∀ x∈P,ZoT ms ns x.2
def Zcb(K:YC)  : TS:=(Xb (tPar 4 5 (YV (Xo (Zbq K) [] E0 (YV (YU 0) (YV (tC (.int 4)) Y1))) (YV (Xo (Zbq K) [] E0 (YV (YU 0) (YV (tC (.int 3)) Y1))) Y1)))
 (Xb (Xm Zjh (Y6 2))
 (Xb (tFor (Zg4 K (YU 4)) (Y6 3) (Xm (tOp (rAdd K) (Xo (Zah K) [] E0 (YV (YU 0) (YV (YU 4) (YV (YU 5) Y1)))) (Xo (Z1 K 3) [] E0 (YV (YU 0) (YV (YU 4) (YV (YU 5) (YV (tC (.int 0)) (YV (YU 1) Y1))))))) (gSub (YU 2) (YU 3) rSetD)))
 (Xj (Zf K (YV (YU 4) (YV (YU 5) (YV (YU 2) Y1))))))))
def Zh1:List Str:=["_law_h", "_law_most", "_law_found", "_law_module", "_law_modules", "_law_names_here"]
theorem Zjr(a b:List Stm):blkD (a++b)=blkD a++blkD b:=by simp[Z_]
theorem ZoT.of{ms ns:List Str}{a b:List Stm}{most:Nat}(x:Zop ms ns a)(la:a.length ≤ 3)(y:∀ s∈b,DSt ms ns 0 s)(lb:b.length ≤ most)(hm:most ≤ 4):ZoT ms ns (a++b):=by
 obtain⟨w,o,d,c⟩:=ZgK y
 refine⟨(ZdE _).mpr fun s m=>?_,(ZcO _ _ _).mpr fun s m=>?_,?_,?_,(Zea _).mpr fun s m=>?_,by rw[Yc]; omega⟩
 ·rcases Yh.mp m with m | m
  ·exact(ZdE _).mp x.wf s m
  ·exact(ZdE _).mp w s m
 ·rcases Yh.mp m with m | m
  ·exact(ZcO _ _ _).mp x.over s m
  ·exact(ZcO _ _ _).mp o s m
 ·have:∀ l:List Stm,depL (l++b)=max (depL l) (depL b):=by
   intro l
   induction l with
   | nil=>simp[depL]
   | cons z r ih=>simp only[YB,depL,ih]; omega
  rw[this]
  have:=x.dep
  omega
 ·rw[ZbJ]
  have:=x.cnt
  have e:stN 0=13:=rfl
  rw[e]at c
  omega
 ·rcases Yh.mp m with m | m
  ·exact(Zea _).mp x.nar s m
  ·exact(y s m).nar
theorem ZeY{x:Str}(h:okN x):ZeM x=true:=by
 unfold ZeM
 simp only[Bool.and_eq_true,decide_eq_true_eq,List.all_eq_true]
 exact⟨⟨h.1,h.2.1⟩,h.2.2⟩
theorem Ex.wf.ok:∀ {e:Ex} {d:Nat},e.wf d→d ≤ 3→e.ok (3 - d)=true
 | .int i,d,h,_=>by
   have h2:okI i:=by cases d <;> exact h
   simp only[Ex.ok]; exact decide_eq_true h2
 | .nm n,d,h,_=>by
   have h2:okN n:=by cases d <;> exact h
   simp only[Ex.ok]; exact ZeY h2
 | .of n a,d,h,_=>by
   have h2:okN n∧okN a:=by cases d <;> exact h
   simp only[Ex.ok,ZeY h2.1,ZeY h2.2]; rfl
 | .bin s l r,0,h,_=>by exact h.elim
 | .bin s l r,d + 1,h,hd=>by
   simp only[Ex.wf]at h
   have h1:=h.1.ok (by omega)
   have h2:=h.2.ok (by omega)
   have e : 3 - d=3 - (d + 1) + 1:=by omega
   rw[e]at h1 h2
   simp only[Ex.ok,h1,h2]
   rw[if_neg (by omega)]; rfl
theorem Ex.wf.strs:∀ {e:Ex} {d:Nat},e.wf d→∀ x∈e.strs,okN x
 | .int i,d,h,x,m=>by simp[Ex.strs]at m
 | .nm n,d,h,x,m=>by
   have h2:okN n:=by cases d <;> exact h
   simp[Ex.strs]at m; subst m; exact h2
 | .of n a,d,h,x,m=>by
   have h2:okN n∧okN a:=by cases d <;> exact h
   simp[Ex.strs]at m; rcases m with rfl | rfl
   ·exact h2.1
   ·exact h2.2
 | .bin s l r,0,h,_,_=>by exact h.elim
 | .bin s l r,d + 1,h,x,m=>by
   simp only[Ex.wf]at h
   simp only[Ex.strs,Yh]at m
   rcases m with m | m
   ·exact h.1.strs x m
   ·exact h.2.strs x m
theorem okN.tx{x:Str}(h:okN x):x.length ≤ 4000∧PyData.strOk x=true:=⟨by have:=h.2.1; omega,h.ok⟩
theorem Stm.wf.okNames{s:Stm}(h:s.wf):∀ x∈s.names,okN x:=by
 intro x m
 cases s <;> simp only[Stm.wf]at h <;> simp only[Stm.names,Yn,Ya,or_false]at m
 ·subst m; exact h.1
 ·subst m; exact h
 ·rcases m with rfl | rfl; exact h.1; exact h.2
 ·rcases m with rfl | rfl | rfl; exact h.1; exact h.2.1; exact h.2.2
 ·subst m; exact h
 ·subst m; exact h.1
theorem Stm.wf.okExprs{s:Stm}(h:s.wf):∀ e∈s.exprs,e.wf 3:=by
 intro x m
 cases s <;> simp only[Stm.wf]at h <;> simp only[Stm.exprs,Yn,Ya,or_false]at m
 ·subst m; exact h.2
 ·subst m; exact h
 ·subst m; exact h
 ·subst m; exact h.1
theorem Stm.wf.okAt{s:Stm}(h:s.wf){p:Pth}(hp:p.length / 2 ≤ 3):s.okAt p=true:=by
 unfold Stm.okAt
 rw[decide_eq_true hp]
 simp only[Bool.true_and,Bool.and_eq_true,List.all_eq_true]
 exact⟨fun x m=>ZeY (h.okNames x m),fun e m=>(h.okExprs e m).ok (YQ _)⟩
theorem Stm.wf.tx{s:Stm}(h:s.wf):s.tx:=⟨fun x m=>(h.okNames x m).tx,fun e m=>⟨fun x mx=>((h.okExprs e m).strs x mx).tx,(h.okExprs e m).lay.1,by have:=(h.okExprs e m).lay.2; omega⟩⟩
mutual
theorem Zoq(Q:Pth→Stm→Prop)(hq:∀ p s,s.wf→p.length / 2 ≤ 3→Q p s):∀ (s:Stm) (p:Pth) (k:Nat),s.wf→p.length=2 * k + 1→k + s.dep ≤ 3→∀ r∈s.sub p,Q r.1 r.2
 | .fn _ b,p,k,h,hp,hd,r,m=>by
   simp only[Stm.wf]at h; simp only[Stm.dep]at hd; simp only[Stm.sub]at m
   exact walk_all Q hq b (p++[0]) 0 (k + 1) h.2 (by simp; omega) (by omega) r m
 | .ite _ b o,p,k,h,hp,hd,r,m=>by
   simp only[Stm.wf]at h; simp only[Stm.dep]at hd; simp only[Stm.sub,Yh]at m
   rcases m with m | m
   ·exact walk_all Q hq b (p++[0]) 0 (k + 1) h.2.1 (by simp; omega) (by omega) r m
   ·exact walk_all Q hq o (p++[1]) 0 (k + 1) h.2.2 (by simp; omega) (by omega) r m
 | .tri _ b o,p,k,h,hp,hd,r,m=>by
   simp only[Stm.wf]at h; simp only[Stm.dep]at hd; simp only[Stm.sub,Yh]at m
   rcases m with m | m
   ·exact walk_all Q hq b (p++[0]) 0 (k + 1) h.2.1 (by simp; omega) (by omega) r m
   ·exact walk_all Q hq o (p++[1]) 0 (k + 1) h.2.2 (by simp; omega) (by omega) r m
 | .set ..,_,_,_,_,_,r,m=>by simp[Stm.sub]at m
 | .del ..,_,_,_,_,_,r,m=>by simp[Stm.sub]at m
 | .shw ..,_,_,_,_,_,r,m=>by simp[Stm.sub]at m
 | .call ..,_,_,_,_,_,r,m=>by simp[Stm.sub]at m
 | .raise,_,_,_,_,_,r,m=>by simp[Stm.sub]at m
 | .imp ..,_,_,_,_,_,r,m=>by simp[Stm.sub]at m
 | .frm ..,_,_,_,_,_,r,m=>by simp[Stm.sub]at m
 | .star ..,_,_,_,_,_,r,m=>by simp[Stm.sub]at m
theorem walk_all(Q:Pth→Stm→Prop)(hq:∀ p s,s.wf→p.length / 2 ≤ 3→Q p s):∀ (b:List Stm) (p:Pth) (i k:Nat),wfL b→p.length=2 * k→k + depL b ≤ 3→∀ r∈walkL p i b,Q r.1 r.2
 | [],_,_,_,_,_,_,r,m=>by simp[walkL]at m
 | s :: b,p,i,k,h,hp,hd,r,m=>by
   simp only[wfL]at h; simp only[depL]at hd; simp only[walkL,Yn,Yh]at m
   rcases m with rfl | m | m
   ·exact hq _ _ h.1 (by simp; omega)
   ·exact Zoq Q hq s (p++[i]) k h.1 (by simp; omega) (by omega) r m
   ·exact walk_all Q hq b p (i + 1) k h.2 hp (by omega) r m
end
mutual
theorem sub_len:∀ (s:Stm) (p:Pth),(s.sub p).length + 1=s.cnt
 | .fn _ b,p=>by simp only[Stm.sub,Stm.cnt,walk_len]
 | .ite _ b o,p=>by simp only[Stm.sub,Stm.cnt,Yc,walk_len]
 | .tri _ b o,p=>by simp only[Stm.sub,Stm.cnt,Yc,walk_len]
 | .set ..,_=>by simp[Stm.sub,Stm.cnt]
 | .del ..,_=>by simp[Stm.sub,Stm.cnt]
 | .shw ..,_=>by simp[Stm.sub,Stm.cnt]
 | .call ..,_=>by simp[Stm.sub,Stm.cnt]
 | .raise,_=>by simp[Stm.sub,Stm.cnt]
 | .imp ..,_=>by simp[Stm.sub,Stm.cnt]
 | .frm ..,_=>by simp[Stm.sub,Stm.cnt]
 | .star ..,_=>by simp[Stm.sub,Stm.cnt]
theorem walk_len:∀ (b:List Stm) (p:Pth) (i:Nat),(walkL p i b).length=cntL b
 | [],_,_=>by simp[walkL,cntL]
 | s :: b,p,i=>by
   have h1:=sub_len s (p++[i])
   have h2:=walk_len b p (i + 1)
   simp only[walkL,cntL,Yd,Yc,h2]; omega
end
mutual
theorem Zqn:∀ (s:Stm) (p:Pth),s.wf→∀ r∈s.sub p,r.2.wf
 | .fn _ b,p,h,r,m=>by
   simp only[Stm.wf]at h; simp only[Stm.sub]at m
   exact walk_wf b (p++[0]) 0 h.2 r m
 | .ite _ b o,p,h,r,m=>by
   simp only[Stm.wf]at h; simp only[Stm.sub,Yh]at m
   rcases m with m | m
   ·exact walk_wf b (p++[0]) 0 h.2.1 r m
   ·exact walk_wf o (p++[1]) 0 h.2.2 r m
 | .tri _ b o,p,h,r,m=>by
   simp only[Stm.wf]at h; simp only[Stm.sub,Yh]at m
   rcases m with m | m
   ·exact walk_wf b (p++[0]) 0 h.2.1 r m
   ·exact walk_wf o (p++[1]) 0 h.2.2 r m
 | .set ..,_,_,r,m=>by simp[Stm.sub]at m
 | .del ..,_,_,r,m=>by simp[Stm.sub]at m
 | .shw ..,_,_,r,m=>by simp[Stm.sub]at m
 | .call ..,_,_,r,m=>by simp[Stm.sub]at m
 | .raise,_,_,r,m=>by simp[Stm.sub]at m
 | .imp ..,_,_,r,m=>by simp[Stm.sub]at m
 | .frm ..,_,_,r,m=>by simp[Stm.sub]at m
 | .star ..,_,_,r,m=>by simp[Stm.sub]at m
theorem walk_wf:∀ (b:List Stm) (p:Pth) (i:Nat),wfL b→∀ r∈walkL p i b,r.2.wf
 | [],_,_,_,r,m=>by simp[walkL]at m
 | s :: b,p,i,h,r,m=>by
   simp only[wfL]at h; simp only[walkL,Yn,Yh]at m
   rcases m with rfl | m | m
   ·exact h.1
   ·exact Zqn s (p++[i]) h.1 r m
   ·exact walk_wf b p (i + 1) h.2 r m
end
structure Zcr(b:List Stm):Prop where
 wf:wfL b
 dep:depL b ≤ 4
 cnt:cntL b ≤ 60
 pth:∀ r∈walkL [] 0 b,r.1.length / 2 ≤ 3
theorem Zjs{b:List Stm}(hw:wfL b)(h:depL b ≤ 3):∀ r∈walkL [] 0 b,r.1.length / 2 ≤ 3:=walk_all (fun p _=>p.length / 2 ≤ 3) (fun p s _ hp=>hp) b [] 0 0 hw rfl (by omega)
theorem ZoT.ok{ms ns:List Str}{b:List Stm}(h:ZoT ms ns b):Zcr b:=⟨h.wf,by have:=h.dep; omega,by have:=h.cnt; omega,Zjs h.wf (by have:=h.dep; omega)⟩
theorem Zcr.fault{b:List Stm}(h:Zcr b){i:Nat}{n:Str}(hi:i < 8)(hn:okN n):ZaN i n b=none:=by
 unfold ZaN
 rw[if_neg]
 ·unfold ZeW
  rw[List.find?_eq_none.mpr]
  ·rfl
  ·intro r m
   have:=(walk_wf b [] 0 h.wf r m).okAt (h.pth r m)
   simp[this]
 ·rintro(z | z | z)
  ·omega
  ·rw[ZeY hn]at z; cases z
  ·rw[walk_len]at z; have:=h.cnt; omega
theorem Zcr.tx{b:List Stm}(h:Zcr b):Zqm b:=fun r m=>(walk_wf b [] 0 h.wf r m).tx
theorem Zcr.few{b:List Stm}(h:Zcr b):(walkL [] 0 b).length ≤ 100000:=by rw[walk_len]; have:=h.cnt; omega
structure Zbm(P:Prg):Prop where
 nd:(P.map (·.1)).Nodup
 few:P.length ≤ 8
 nm:∀ x∈P,okN x.1
 blk:∀ x∈P,Zcr x.2
theorem ZdJ.ok{ms ns:List Str}{P:Prg}(h:ZdJ ms ns P):Zbm P:=by
 have e:=congrArg List.length h.keys
 rw[Yb]at e
 have:=h.lm
 exact⟨by rw[h.keys]; exact h.ndm,by omega,fun x m=>h.okm _ (by rw[← h.keys]; exact Yv (f:=(·.1)) m),fun x m=>(h.blk x m).ok⟩
end M
local macro_rules | `(tactic| row_readAll n2) => `(tactic| simp only [Zg6, Zqd, Zqe, Zqf, Zqg, Zqh, Zqi, Zts, Zsc, Zsd, Zqj, Znm, List.append_nil])
local macro_rules | `(tactic| row_readAll s) => `(tactic| first | row_readAll n | row_readAll n2 | row_readAll s2 | row_readAll br | row_readAll nx)
local macro_rules | `(tactic| row_readAll s8) => `(tactic| first | row_readAll n | row_readAll n2 | row_readAll s2 | row_readAll br | row_readAll nx)
local macro_rules | `(tactic| row_readAll go) => `(tactic| repeat row_readAll s8)
local macro_rules | `(tactic| row_readAll s38) => `(tactic| first
 | row_readAll s8
 | ((with_reducible show _ ≤ YM∧_); refine⟨by row_readAll sz,?_⟩)
 | ((with_reducible show mkT _ _ _ _); refine Zj (by row_readAll ln) fun _ _ _ _ _=>?_)
 | ((with_reducible show Zi9 _ (V.str _) (V.ref _) _ _); first | refine Zk6 (by row_readAll sq) ?_ | refine ZnK (by row_readAll sq) ?_)
 | (simp only[Bool.or_false,Bool.or_true,Bool.true_or,Bool.false_or,Bool.and_true,Bool.true_and,Bool.false_and,Bool.and_false]))
local macro_rules | `(tactic| row_readAll ga) => `(tactic| repeat row_readAll s38)
namespace M
open PySem L2 SlX
def Zas(P:Prg):Prg:=(Zfh (P.map (·.1))).map fun n=>(n,(valA P n).getD [])
theorem Zch(P:Prg):(Zas P).map (·.1)=Zfh (P.map (·.1)):=by
 unfold Zas
 rw[Yx]
 exact(List.map_congr_left fun _ _=>rfl).trans (List.map_id _)
structure Zjt(K:YC)(C p1 p2:YF):Prop where
 c:SCls K C
 s1:Slot1 K C "own_names" p1 1
 s2:Slot1 K C "own_blocks" p2 0
structure Zbs(K:YC)(H:Hp)(C a:YF)(P:Prg)(fp:List YF):Prop where
 ex:∃ dx nl d,fp=[a,dx,nl,d]∧Slt H a C dx [some (.ref d),some (.ref nl)]∧H dx=some (.xd [])∧H nl=some (.lst ((P.map (·.1)).map V.str))∧Zbc K H d P
theorem Zbs.keep{K:YC}{H H':Hp}{C a:YF}{P:Prg}{fp S:List YF}(x:Zbs K H C a P fp)(k:Zb S H H')(n:∀ b∈fp,b∉S):Zbs K H' C a P fp:=by
 obtain⟨dx,nl,d,rfl,h1,h2,h3,h4⟩:=x.ex
 refine⟨dx,nl,d,rfl,Slt.keep (b:=.own 0) h1 k (n _ (by simp)) (n _ (by simp)),k.obj _ _ (n _ (by simp)) h2,k.obj _ _ (n _ (by simp)) h3,h4.keep k (n _ (by simp))⟩
theorem Zbs.k0{K:YC}{H H':Hp}{C a:YF}{P:Prg}{fp:List YF}(x:Zbs K H C a P fp)(k:Zb [] H H'):Zbs K H' C a P fp:=x.keep k fun _ _=>Ya
def Zi(K:YC)(C:YF):Sp:=fun vs H Q _=>∃ a dx d P,vs=[.ref a,.ref d]∧H a=some (.ins C dx [])∧H dx=some (.own a)∧dx≠a∧Zbc K H d P∧Zbm P ∧
 ∀ nl e H',Zbs K H' C a (Zas P) [a,dx,nl,e]→H nl=none→H e=none→Zb [a,dx] H H'→Q .non H'
def Zax(K:YC)  : TS:=(Xb (tFor (Zio K (YV (tCB ZiH (YV (YU 1) Y1)) Y1)) (gTup K 2 (gCons (Y6 2) (gCons (Y6 3) gNil))) (Xb (Xm (Xo (Zbb K) [] E0 (YV (YU 2) (YV (YU 3) (YV (tOp rIxD (YU 1) (YU 3)) Y1)))) (Y6 4))
 (Xk (Xe (tOp rNotN (YU 4) (tC .non))) tNever Xq)))
 (Xb (SlX.sSl K (YU 0) (tCB ZiH (YV (YU 1) Y1)) "own_names")
 (SlX.sSl K (YU 0) (tDc (Zg4 K (tCB ZiH (YV (YU 1) Y1))) (Y6 3) tYes (YU 3) (tOp rIxD (YU 1) (YU 3)) [3]) "own_blocks")))
def Zft:List Str:=["self", "modules", "index", "name", "path"]
theorem Zbc.val{K:YC}{H:Hp}{d:YF}{P:Prg}{n:Str}(x:Zbc K H d P)(m:n∈P.map (·.1)):∃ v b,valA P n=some b∧Im K H v (.tuple (blkD b))∧∀ Q:VK,Q v H→rIxD (.ref d) (.str n) H Q:=by
 obtain⟨mm,h1,h2⟩:=x
 rcases h2.val Zdm n with⟨_,z⟩ | ⟨v,b,e1,e2,i⟩
 ·exact absurd m (ZcJ.mp z)
 ·exact⟨v,b,e2,i,fun Q q=>Zn2 h1 e1 q⟩
theorem get_map{α β : Type}{f : α→β}{l:List α}{i:Nat}{y : β}(e:(l.map f)[i]? = some y):∃ x,l[i]? = some x∧y=f x:=by
 rw[Ym,Option.map_eq_some_iff]at e
 obtain⟨x,h1,h2⟩:=e
 exact⟨x,h1,h2.symm⟩
theorem ZdK{K:YC}{C p1 p2:YF}(T:Zjt K C p1 p2)(vs:List V)(H:Hp)(Q:VK)(E:XK)(h:Zi K C vs H Q E):Zax K { nx:=fun _ H'=>Q .non H',rt:=Q } (start Zft vs) H:=by
 obtain⟨a,dx,d,P,rfl,ha,hdx,hne,dp,ok,q⟩:=h
 show Zax K _ [some (.ref a),some (.ref d),none,none,none] H
 unfold Zax
 have sl:=Z3
 have few:=ok.few
 obtain⟨m,hm,rm⟩:=dp
 have lks:(Zfh (P.map (·.1))).length=P.length:=by rw[Ziw,Yb]
 row_readAll go
 refine Zjl hm rm (by omega) fun l1 H1 f1 k1 g1=>?_
 row_readAll go
 refine .inl ⟨⟨_,SqL.of g1⟩,?_⟩
 refine ZnQ (xs:=(Zfh (P.map (·.1))).map V.str) (fun i σ' H'=>∃ o2 o3 o4,σ'=[some (.ref a),some (.ref d),o2,o3,o4]∧Zb [] H1 H') ⟨none,none,none,rfl,Zb.refl _ _⟩ (fun i σ' H' _ p=>by obtain⟨_,_,_,_,k⟩:=p; exact SqL.of (k.obj _ _ Ya g1)) ?_ ?_
 ·rintro i x T2 σ' H2 H3 hx ⟨o2,o3,o4,rfl,k2⟩ k3 hT
  obtain⟨n,hn,rfl⟩:=get_map hx
  have mn:n∈P.map (·.1):=ZcK.mp (Yj hn)
  have hi:=Zdl hn
  have kk:Zb [] H H3:=(k1.trans k2).trans k3
  refine Zhu hT ?_
  row_readAll go
  obtain⟨v,b,e1,i1,gv⟩:=Zbc.val (K:=K) (H:=H3) ⟨m,kk.obj _ _ Ya hm,rm.mono fun v b i=>i.mono kk⟩ mn
  refine gv _ ?_
  have mb:=ZbS e1
  have ob:=ok.blk _ mb
  have on:=ok.nm _ mb
  refine⟨v,b,n,i,rfl,i1,Nat.lt_of_le_of_lt ob.dep (by decide),ob.few,ob.tx,on.tx.1,on.tx.2,fun r H4 k4 hr=>?_⟩
  rw[ob.fault (by omega) on]at hr
  cases hr
  row_readAll go
  exact⟨_,_,_,rfl,(k2.trans k3).trans k4⟩
 ·rintro σ' H2 ⟨o2,o3,o4,rfl,k2⟩
  have kk:Zb [] H H2:=k1.trans k2
  row_readAll go
  refine Zjl (kk.obj _ _ Ya hm) rm (by omega) fun nl H3 f3 k3 g3=>?_
  have kk3:Zb [] H H3:=kk.trans k3
  row_readAll go
  have ha3:=kk3.obj _ _ Ya ha
  have hdx3:=kk3.obj _ _ Ya hdx
  refine Zlw (y:=.ref nl) (.inl ⟨ha3,rfl⟩) (.inl hdx3) hne T.c T.s1 fun H4 k4 s4 x4=>?_
  have e4:putS 1 (.ref nl) []=[none,some (V.ref nl)]:=rfl
  rw[e4]at s4
  row_readAll go
  have dne:d≠a∧d≠dx:=by
   constructor
   ·rintro rfl; rw[hm]at ha; cases ha
   ·rintro rfl; rw[hm]at hdx; cases hdx
  have nne:nl≠a∧nl≠dx:=by
   have f3':=kk.free f3
   constructor
   ·rintro rfl; rw[f3']at ha; cases ha
   ·rintro rfl; rw[f3']at hdx; cases hdx
  have hm4:=k4.obj _ _ (by simp[dne.1,dne.2]) (kk3.obj _ _ Ya hm)
  refine Zjl hm4 rm (by omega) fun l5 H5 f5 k5 g5=>?_
  row_readAll go
  refine .inl ⟨⟨_,SqL.of g5⟩,?_⟩
  have rm5:Zc1 kS (Zq5 K H5) m P:=((rm.mono fun v b i=>i.mono kk3).mono fun v b i=>i.mono k4).mono fun v b i=>i.mono k5
  have hm5:=k5.obj _ _ Ya hm4
  refine Zlv (S:=[]) (Wk.lst (SqL.of g5) Ya) (fun D i H6=>Zb [] H5 H6∧Zbc K H6 D ((Zas P).take i)) (fun D i H6 p=>p.1) (fun D H6 _ k6 g6=>⟨k6,[],g6,by simpa using .nil⟩) ?_ ?_
  ·rintro D i H6 x H7 fD hx ⟨k6,mD,gD,rD⟩ k7
   obtain⟨n,hn,rfl⟩:=get_map hx
   have mn:n∈P.map (·.1):=ZcK.mp (Yj hn)
   have hi:=Zdl hn
   row_readAll go
   have k67:Zb [] H5 H7:=k6.trans k7
   obtain⟨v,b,e1,i1,gv⟩:=Zbc.val (K:=K) (H:=H7) ⟨m,k67.obj _ _ Ya hm5,rm5.mono fun v b i=>i.mono k67⟩ mn
   refine gv _ ?_
   have lD:=rD.length
   rw[Yu]at lD
   refine Zs3 (k7.obj _ _ Ya gD) (by omega) fun H8 k8 g8=>⟨k67.step1 k8 fD,_,g8,?_⟩
   have hp:(Zas P)[i]? = some (n,b):=by
    unfold Zas
    rw[Ym,hn,Option.map_some,e1]
    rfl
   rw[take_snoc hp]
   have nn:n∉((Zas P).take i).map (·.1):=by
    rw[List.map_take,Zch]
    intro hmem
    obtain⟨j,hj⟩:=YA hmem
    have hj2:=(Yk.mp hj).1
    rw[Yu]at hj2
    rw[List.getElem?_take_of_lt (by omega)]at hj
    have e2:(Zfh (P.map (·.1)))[j]'(by omega)=n:=(Yk.mp hj).2
    have e3:(Zfh (P.map (·.1)))[i]=n:=(Yk.mp hn).2
    have:=(List.getElem_inj (h₀:=by omega) (h₁:=hi) (ZeU ok.nd)).mp (e2.trans e3.symm)
    omega
   have eP:Zcw ((Zas P).take i) n b=(Zas P).take i++[(n,b)]:=by
    unfold Zcw
    rw[if_neg]
    intro hh
    rw[List.any_eq_true]at hh
    obtain⟨p,hp2,e⟩:=hh
    exact nn (by rw[← of_decide_eq_true e]; exact Yv (f:=(·.1)) hp2)
   rw[← eP]
   exact((rD.mono fun v b i=>i.mono k7).put Zdm (k:=n) (v:=v) (x:=b) i1).mono fun v b i=>i.mono k8
  ·rintro D H6 fD ⟨k6,dD⟩
   row_readAll go
   have s6:=Slt.keep (b:=.own 0) s4 (k5.trans k6) Ya Ya
   have x6:=(k5.trans k6).obj _ _ Ya x4
   refine Zlw (y:=.ref D) s6 (.inr x6) hne T.c T.s2 fun H7 k7 s7 x7=>?_
   have e7:putS 0 (.ref D) [none,some (V.ref nl)]=[some (V.ref D),some (V.ref nl)]:=rfl
   rw[e7]at s7
   have fD4:H4 D=none:=k5.free fD
   have fDH3:H3 D=none:=k4.free fD4
   have Dne:D≠a∧D≠dx∧D≠nl:=by
    refine⟨?_,?_,?_⟩
    ·rintro rfl; rw[fDH3]at ha3; cases ha3
    ·rintro rfl; rw[fDH3]at hdx3; cases hdx3
    ·rintro rfl; rw[fDH3]at g3; cases g3
   refine q nl D H7 ⟨dx,nl,D,rfl,s7,x7,?_,?_⟩ (kk.free f3) (kk3.free fDH3) ?_
   ·rw[Zch]
    exact k7.obj _ _ (by simp[nne.1,nne.2]) ((k5.trans k6).obj _ _ Ya (k4.obj _ _ (by simp[nne.1,nne.2]) g3))
   ·have hl:(Zas P).length=P.length:=by unfold Zas; rw[Yb,lks]
    rw[Yb,lks,← hl,Yt]at dD
    exact dD.keep k7 (by simp[Dne.1,Dne.2.1])
   ·exact((kk3.nil.trans k4).step0 (k5.trans k6)).trans k7
end M
namespace M
open PySem L2
inductive Vl where
 | int (i:Int) | md (m:Str) | fn (m:Str) (p:Pth)
 deriving DecidableEq
def Vl.d:Vl→PyData
 | .int i=>.int i
 | .md m=>.tuple [.str "module",.str m]
 | .fn m p=>.tuple [.str "function",.str m,Zf5 p]
abbrev ZlJ:=Str×Str
abbrev Zkf:=List (ZlJ×Vl)
abbrev Plc:=Str×Pth
structure Wd where
 left:Nat
 st:List (Str×Str)
 vs:Zkf
 shown:List Vl
 ev:List (Str×Str)
inductive Rs where
 | ok (w:Wd) | err (k:Str) (t:List Plc) (w:Wd) | stop (t:List Plc) (w:Wd)
def evl(vs:Zkf)(m:Str):Ex→Except Str Vl
 | .int i=>.ok (.int i)
 | .nm n=>match valA vs (m,n)with
   | some x=>.ok x
   | none=>.error "unbound"
 | .of n a=>match valA vs (m,n)with
   | none=>.error "unbound"
   | some (.md h)=>(match valA vs (h,a)with
     | some x=>.ok x
     | none=>.error "missing")
   | some _=>.error "kind"
 | .bin s l r=>match evl vs m l with
   | .error e=>.error e
   | .ok x=>match evl vs m r with
     | .error e=>.error e
     | .ok y=>match x,y with
       | .int a,.int b=>.ok (.int (if s=true then a + b else if a < b then 1 else 0))
       | _,_=>.error "kind"
def Zqo:List Stm→Pth→Option (List Stm)
 | _,[]=>none
 | b,[i]=>match b[i]? with
   | some (.fn _ body)=>some body
   | _=>none
 | b,i :: k :: p=>match b[i]? with
   | some s=>(match s.blocks[k]? with
     | some b'=>Zqo b' p
     | none=>none)
   | none=>none
def ZmA(m t:Str):List ZlJ→Zkf→Zkf
 | [],vs=>vs
 | k :: r,vs=>ZmA m t r (if k.1=t then(match valA vs k with
   | some x=>Zcw vs (m,k.2) x
   | none=>vs)else vs)
def Zqp(vs:Zkf)(m t:Str):Zkf:=ZmA m t (vs.map (·.1)) vs
abbrev Fb:=Str→Option (List Stm)
def told(w:Wd)(m:Str):Str:=(valA w.st m).getD "absent"
def Zsf(m:Str)(w:Wd):Wd:={ w with st:=Zcw w.st m "done",ev:=w.ev++[(("end" : Str),m)] }
def Zor(m:Str)(w:Wd):Wd:={ w with st:=Zcw w.st m "absent",vs:=w.vs.filter (fun p=>decide (p.1.1≠m)),ev:=w.ev++[(("fail" : Str),m)] }
end M
namespace M
open PySem PySem.Spec PyProof.Rows L2 L2H
theorem ZlK{P:YF→Prop}:∀ x∈([]:List YF),P x:=fun _ h=>nomatch h
theorem Zh2{P:YF→Prop}{a:YF}{l:List YF}(h:P a)(t:∀ x∈l,P x):∀ x∈a :: l,P x:=fun x m=>by
 rcases Yn.mp m with rfl | m
 ·exact h
 ·exact t x m
theorem Zb.stepB{S T:List YF}{H H1 H2:Hp}(b:Zb T H1 H2)(h:∀ x∈T,x∈S∨H x=none)(a:Zb S H H1):Zb S H H2:=a.step b h
def mkN(xs:List V)(H:Hp)(Q:VK):Prop:=xs.length ≤ YM∧∀ p H2,H p=none→Zb [] H H2→H2 p=some (.tup xs)→Q (.ref p) H2
def ZgL(t:TA):TE:=fun σ H Q=>t σ H fun xs H1=>mkN xs H1 Q
def Znu(H:Hp)(Q:VK):Prop:=∀ p H',H p=none→Zb [] H H'→H' p=some (.dT [])→Q (.ref p) H'
def Zqq:TE:=fun _ H Q=>Znu H Q
section
variable {X:Cx}
end
theorem RoomH.units{k:Nat}{A:Around}(r:RoomH k A):A.units + 64 < cLine:=by have:=r.un; omega
structure InsC(K:YC)(C:YF)(nm:List Str):Prop where
 cls:Cls K C
 no:∀ f∈nm,NoAttr K C f
def Zsg(K:YC)(f:Str)(x:V)(H:Hp)(Q:VK):Prop:=∃ a C dx fs v,x = .ref a∧H a=some (.ins C dx fs)∧Cls K C∧NoAttr K C f∧fs.lookup f=some v∧Q v H
def Zs4(K:YC)(f:Str)(x y:V)(H:Hp)(R:Hp→Prop):Prop:=∃ a C dx fs,x = .ref a∧H a=some (.ins C dx fs)∧Cls K C∧NoAttr K C f∧fs.length < 1000∧R (upd H a (.ins C dx (putF f y fs)))
def Ztw(K:YC)(f:Str)(rd:V→V→Hp→VK→Prop)(x:V)(tv:Hp→VK→Prop)(H:Hp)(R:Hp→Prop):Prop:=∃ a C dx fs v,x = .ref a∧H a=some (.ins C dx fs)∧Cls K C∧NoAttr K C f∧fs.lookup f=some v ∧
 tv H fun y H2=>rd v y H2 fun z H3=>∃ dx' fs',H3 a=some (.ins C dx' fs')∧fs'.length < 1000∧R (upd H3 a (.ins C dx' (putF f z fs')))
section
variable {K:YC} {σ:L2.St} {H:Hp} {Q:VK} {D:Ends} {S:List YF} {C a dx:YF} {fs:List (Str×V)} {nm:List Str} {f:Str}
theorem Zsh{ta:TE}:Xi K ta f σ H Q=ta σ H fun x H1=>Zsg K f x H1 Q:=rfl
theorem Zqr{ta tv:TE}:sFld K ta tv f D σ H=tv σ H fun y H1=>ta σ H1 fun x H2=>Zs4 K f x y H2 (D.nx σ):=rfl
theorem Zqs{ta tv:TE}{rd:V→V→Hp→VK→Prop}:sFldAug K ta tv rd f D σ H=ta σ H fun x H1=>Ztw K f rd x (fun H2 Q2=>tv σ H2 Q2) H1 (D.nx σ):=rfl
theorem Zqt{m:Str}{sp:Sp}{E:XK}{ta:TE}{t:TA}:Xl C m sp [] E ta t σ H Q=ta σ H fun x H1=>∃ a dx fs,x = .ref a∧H1 a=some (.ins C dx fs)∧fs.lookup m=none∧t σ H1 fun vs H2=>sp (x :: (vs++[])) H2 Q E:=rfl
theorem Zos{m:Str}{sp:Sp}{E:L2.St→XK}{ta:TE}{t:TA}:tMethH C m sp E ta t σ H Q=ta σ H fun x H1=>∃ a dx fs,x = .ref a∧H1 a=some (.ins C dx fs)∧fs.lookup m=none∧t σ H1 fun vs H2=>sp (x :: vs) H2 Q (E σ):=rfl
theorem Zqu{t:TA}:ZgL t σ H Q=t σ H fun xs H1=>mkN xs H1 Q:=rfl
theorem Zot:Zqq σ H Q=Znu H Q:=rfl
theorem Zsi{T:String}{r:V→List V→Hp→VK→Prop}{to:TE}:tBM0 K T r to σ H Q=to σ H fun x H1=>tyV K T x H1∧r x [] H1 Q:=rfl
theorem Zsj{v:V}(h:H a=some (.ins C dx fs))(T:InsC K C nm)(m:f∈nm)(e:fs.lookup f=some v)(q:Q v H):Zsg K f (.ref a) H Q:=⟨a,C,dx,fs,v,rfl,h,T.cls,T.no f m,e,q⟩
theorem Zou{y:V}{R:Hp→Prop}(h:H a=some (.ins C dx fs))(T:InsC K C nm)(m:f∈nm)(l:fs.length < 1000)(q:∀ H',Zb [a] H H'→H' a=some (.ins C dx (putF f y fs))→R H'):Zs4 K f (.ref a) y H R :=
 ⟨a,C,dx,fs,rfl,h,T.cls,T.no f m,l,q _ (Zb.put h True.intro) Y_⟩
end
end M
namespace M
open PySem PySem.Spec PyProof.Rows L2
def Zsk(e:Int×YI):Str:=match e.2 with
 | .str k _=>k
 | _=>Str.empty
def Zov(P:YG)(w:YH)(e:Int×YI):Prop:=∃ k tk,e.2=Value.str k tk∧e.1=(PySem.strKind P w).hash k
structure ZlL(P:YG)(w:YH)(ks:List Str)(es:Array (Int×YI))(t:SetTable):Prop where
 good:∀ e∈es.toList,Zov P w e
 keys:(es.toList.map Zsk).Perm ks
 nd:ks.Nodup
 few:es.size < scanBound
 fits:t.fits es.size=true
 ris:Ris t.place.toList
 led:w.params.followText "set-order" = true∨t.led=true
def Zsl(P:YG)(w:YH)(h:Heap)(a:YF)(ks:List Str):Prop:=∃ o es ep t,h.get? a=some o∧o.ExactSet∧o.data = .set es ep t∧ZlL P w ks es t
section
variable {P:YG} {w:YH} {h h':Heap} {a:YF} {ks:List Str} {es:Array (Int×YI)} {t:SetTable}
theorem Zov.is{e:Int×YI}(g:Zov P w e)(k:Str):(PySem.strKind P w).is k e.2=true↔Zsk e=k:=by
 obtain⟨k0,tk,h1,_⟩:=g
 unfold Zsk
 rw[h1]
 show((k0 == k)=true)↔k0=k
 exact beq_iff_eq
theorem ZlL.mem(T:ZlL P w ks es t)(k:Str):k∈ks↔∃ e∈es.toList,(PySem.strKind P w).is k e.2=true:=by
 rw[← T.keys.mem_iff,Yq]
 exact⟨fun⟨e,he,q⟩=>⟨e,he,((T.good e he).is k).2 q⟩,fun⟨e,he,q⟩=>⟨e,he,((T.good e he).is k).1 q⟩⟩
theorem ZlL.len(T:ZlL P w ks es t):es.size=ks.length:=by
 rw[← Array.length_toList,← T.keys.length_eq,Yb]
theorem Zsl.at(R:Zsl P w h a ks)(k:∀ o,h.get? a=some o→h'.get? a=some o):Zsl P w h' a ks:=by
 obtain⟨o,es,ep,t,ho,r⟩:=R
 exact⟨o,es,ep,t,k o ho,r⟩
end
section
variable {P:YG} {w:YH} {A:Around} {E:YI→YJ→Prop} {s:YJ} {a:YF} {ks:List Str}
end
section
variable {X:Cx}
end
section
variable {P:YG} {w:YH} {A:Around} {E:YI→YJ→Prop} {s:YJ}
end
section
variable {X:Cx}
end
section
variable {K:YC} {P:YG} {w:YH} {σ:L2.St} {H:Hp} {Q:VK} {S:List YF}
end
section
variable {X:Cx}
end
end M
local macro_rules | `(tactic| row_readAll n3) => `(tactic| simp only [Zsh, Zqr, Zqs, Zqt, Zos, Zqu, Zot, Zsi, List.append_nil])
local macro_rules | `(tactic| row_readAll fl) => `(tactic| ((with_reducible show Zsg _ _ (V.ref _) _ _); refine Zsj (by row_readAll ob) (by assumption) (by decide +kernel) (by rfl) ?_))
local macro_rules | `(tactic| row_readAll s) => `(tactic| first | row_readAll n | row_readAll n2 | row_readAll n3 | row_readAll s2 | row_readAll fl | row_readAll br | row_readAll nx)
local macro_rules | `(tactic| row_readAll kf) => `(tactic| first | assumption | exact Zb.free (by assumption) (by row_readAll kf))
local macro_rules | `(tactic| row_readAll km) => `(tactic| first | exact ZlK | (refine Zh2 (by first | exact .inl (by simp) | exact .inr (by row_readAll kf)) ?_; row_readAll km))
local macro_rules | `(tactic| row_readAll kc) => `(tactic| first | exact Zb.refl _ _ | exact Zb.stepB (by assumption) (by row_readAll km) (by row_readAll kc))
local macro_rules | `(tactic| row_readAll cu) => `(tactic| fail)
local macro_rules | `(tactic| row_readAll s9) => `(tactic| first | row_readAll n | row_readAll n2 | row_readAll n3 | row_readAll s2 | row_readAll fl | row_readAll br | row_readAll nx | row_readAll cu)
local macro_rules | `(tactic| row_readAll go) => `(tactic| repeat row_readAll s9)
local macro_rules | `(tactic| row_readAll s39) => `(tactic| first
 | row_readAll s9
 | ((with_reducible show _ ≤ YM∧_); refine⟨by row_readAll sz,?_⟩)
 | ((with_reducible show mkT _ _ _ _); refine Zj (by row_readAll ln) fun _ _ _ _ _=>?_)
 | ((with_reducible show Zi9 _ (V.str _) (V.ref _) _ _); first | refine Zk6 (by row_readAll sq) ?_ | refine ZnK (by row_readAll sq) ?_)
 | (simp only[Bool.or_false,Bool.or_true,Bool.true_or,Bool.false_or,Bool.and_true,Bool.true_and,Bool.false_and,Bool.and_false]))
local macro_rules | `(tactic| row_readAll ga) => `(tactic| repeat row_readAll s39)
namespace M
open PySem L2 L2H
def evD(e:Str×Str):PyData:=.tuple [.str e.1,.str e.2]
structure WA where
 W:YF
 dx:YF
 S:YF
 B:YF
 L:YF
 E:YF
abbrev nmW:List Str:=["left", "statuses", "bindings", "lines", "happened"]
def wFs(A:WA)(n:Int):List (Str×V):=[("left",.int n),("statuses",.ref A.S),("bindings",.ref A.B),("lines",.ref A.L),("happened",.ref A.E)]
structure Zdr(K:YC)(H:Hp)(C:YF)(A:WA)(w:Wd):Prop where
 obj:H A.W=some (.ins C A.dx (wFs A w.left))
 st:∃ m,H A.S=some (.dK m)∧Zc1 kS (fun v s=>v = .str s) m w.st
 vs:∃ m,H A.B=some (.dT m)∧Zc1 kT (fun v x=>Im K H v (Vl.d x)) m w.vs
 sh:∃ l,H A.L=some (.lst l)∧ImAll K H l (w.shown.map Vl.d)
 ev:∃ l,H A.E=some (.lst l)∧ImAll K H l (w.ev.map evD)
 ne:A.L≠A.E
def WA.fp(A:WA):List YF:=[A.W,A.S,A.B,A.L,A.E]
section
variable {K:YC} {H H':Hp} {C:YF} {A:WA} {w:Wd} {S:List YF}
theorem Zdr.keep(x:Zdr K H C A w)(k:Zb S H H')(n:∀ b∈A.fp,b∉S):Zdr K H' C A w:=by
 obtain⟨m1,h1,r1⟩:=x.st
 obtain⟨m2,h2,r2⟩:=x.vs
 obtain⟨l3,h3,r3⟩:=x.sh
 obtain⟨l4,h4,r4⟩:=x.ev
 refine⟨k.obj _ _ (n _ (by simp[WA.fp])) x.obj,⟨m1,k.obj _ _ (n _ (by simp[WA.fp])) h1,r1⟩,⟨m2,k.obj _ _ (n _ (by simp[WA.fp])) h2,r2.mono fun v b i=>i.mono k⟩,⟨l3,k.obj _ _ (n _ (by simp[WA.fp])) h3,r3.mono k⟩,⟨l4,k.obj _ _ (n _ (by simp[WA.fp])) h4,r4.mono k⟩,x.ne⟩
theorem Zdr.k0(x:Zdr K H C A w)(k:Zb [] H H'):Zdr K H' C A w:=x.keep k fun _ _=>Ya
theorem ZbY{a b:YF}{u v:HO}(h1:H a=some u)(h2:H b=some v)(ne:u≠v):a≠b:=fun e=>by rw[e,h2]at h1; exact ne (Option.some.inj h1).symm
theorem Zdr.ns(x:Zdr K H C A w):A.W≠A.S∧A.W≠A.B∧A.W≠A.L∧A.W≠A.E∧A.S≠A.B∧A.S≠A.L∧A.S≠A.E∧A.B≠A.L∧A.B≠A.E∧A.L≠A.E:=by
 obtain⟨m1,h1,r1⟩:=x.st
 obtain⟨m2,h2,r2⟩:=x.vs
 obtain⟨l3,h3,r3⟩:=x.sh
 obtain⟨l4,h4,r4⟩:=x.ev
 have h0:=x.obj
 exact⟨ZbY h0 h1 (fun z=>nomatch z),ZbY h0 h2 (fun z=>nomatch z),ZbY h0 h3 (fun z=>nomatch z),ZbY h0 h4 (fun z=>nomatch z),ZbY h1 h2 (fun z=>nomatch z),ZbY h1 h3 (fun z=>nomatch z),ZbY h1 h4 (fun z=>nomatch z),ZbY h2 h3 (fun z=>nomatch z),ZbY h2 h4 (fun z=>nomatch z),x.ne⟩
end
def Zb7(K:YC)(C:YF):Sp:=fun vs H Q _=>∃ A w m,vs=[.ref A.W,.str m]∧Zdr K H C A w∧Q (.str (told w m)) H
def ZeN(K:YC)(C:YF):Sp:=fun vs H Q _=>∃ A w m,vs=[.ref A.W,.str m]∧Zdr K H C A w∧w.st.length < 100000∧w.ev.length < 100000 ∧
 ∀ H',Zdr K H' C A { w with st:=Zcw w.st m "running",ev:=w.ev++[(("begin" : Str),m)] }→Zb [A.S,A.E] H H'→Q .non H'
def ZeO(K:YC)(C:YF):Sp:=fun vs H Q _=>∃ A w m,vs=[.ref A.W,.str m]∧Zdr K H C A w∧w.st.length < 100000∧w.ev.length < 100000 ∧
 ∀ H',Zdr K H' C A (Zsf m w)→Zb [A.S,A.E] H H'→Q .non H'
theorem ImAll.add{K:YC}{H:Hp}{l:List V}{v:V}{α : Type}{f : α→PyData}{xs:List α}{x : α}(h:ImAll K H l (xs.map f))(i:Im K H v (f x)):ImAll K H (l++[v]) ((xs++[x]).map f):=by
 rw[Yl]
 exact h.append (.cons i .nil)
def Zfu(K:YC)(C:YF):Sp:=fun vs H Q _=>∃ A w m,vs=[.ref A.W,.str m]∧Zdr K H C A w∧w.ev.length < 100000 ∧
 (told w m = "absent" → Q (.bl false) H)∧(told w m ≠ "absent" → ∀ H',Zdr K H' C A { w with ev:=w.ev++[((if told w m = "running" then "half" else "again" : Str),m)] }→Zb [A.E] H H'→Q (.bl true) H')
theorem Zkg{κ α : Type} [DecidableEq κ] {l:List (κ×α)} {k : κ} {x : α} (h:k∉l.map (·.1)):Zcw l k x=l++[(k,x)]:=by
 unfold Zcw
 rw[if_neg]
 intro hh
 rw[List.any_eq_true]at hh
 obtain⟨p,hp,e⟩:=hh
 exact h (by rw[← of_decide_eq_true e]; exact Yv (f:=(·.1)) hp)
mutual
theorem Im.monoT{K:YC}{H H':Hp}(k:∀ a xs,SqT K H a xs→SqT K H' a xs):∀ {v:V} {d:PyData},Im K H v d→Im K H' v d
 | _,_,.non=>.non
 | _,_,.bl b=>.bl b
 | _,_,.int i=>.int i
 | _,_,.str x=>.str x
 | _,_,.tup h a=>.tup (k _ _ h) (ImAll.monoT k a)
theorem ImAll.monoT{K:YC}{H H':Hp}(k:∀ a xs,SqT K H a xs→SqT K H' a xs):∀ {vs:List V} {ds:List PyData},ImAll K H vs ds→ImAll K H' vs ds
 | _,_,.nil=>.nil
 | _,_,.cons h t=>.cons (Im.monoT k h) (ImAll.monoT k t)
end
section
variable {K:YC} {σ:L2.St} {H:Hp} {Q:VK} {D:Ends} {S:List YF}
end
def Zfv(K:YC)(C:YF):Sp:=fun vs H Q _=>∃ A w m,vs=[.ref A.W,.str m]∧Zdr K H C A w∧w.st.length < 100000∧w.ev.length < 100000∧w.vs.length < 100000∧(w.vs.map (·.1)).Nodup ∧
 ∀ B' H',Zdr K H' C { A with B:=B' } (Zor m w)→H B'=none→Zb [A.S,A.W,A.E] H H'→Q .non H'
end M
namespace M
open PySem L2 SlX
def ZK(K:YC)(C:YF):Sp:=fun vs H Q _=>∃ a n P fp,vs=[.ref a,.str n]∧Zbs K H C a P fp∧Q (.bl (valA P n).isSome) H
def Zaa(K:YC)  : TS:=(Xj (tOp rInD (YU 1) (SlX.tSl K (YU 0) "own_blocks")))
def Zds:List Str:=["self", "x"]
theorem ZcE{K:YC}{C p1 p2:YF}(T:Zjt K C p1 p2)(vs:List V)(H:Hp)(Q:VK)(E:XK)(h:ZK K C vs H Q E):Zaa K { nx:=fun _ H'=>Q .non H',rt:=Q } (start Zds vs) H:=by
 obtain⟨a,n,P,fp,rfl,x,q⟩:=h
 show Zaa K _ [some (.ref a),some (.str n)] H
 unfold Zaa
 obtain⟨dx,nl,d,rfl,h1,h2,h3,m,h4,r4⟩:=x.ex
 row_readAll go
 refine⟨a,C,dx,p2,_,_,_,rfl,h1,T.c,T.s2,rfl,?_⟩
 refine ZpS h4 ?_
 have e:(valV m (.inr n)).isSome=(valA P n).isSome:=by
  rcases r4.val Zdm n with⟨e1,e2⟩ | ⟨v,b,e1,e2,e3⟩
  ·rw[show valV m (.inr n)=none from e1,e2]; rfl
  ·rw[show valV m (.inr n)=some v from e1,e2]; rfl
 rw[e]
 exact q
def Zm(K:YC)(C:YF):Sp:=fun vs H Q _=>∃ a n P fp b,vs=[.ref a,.str n]∧Zbs K H C a P fp∧valA P n=some b∧∀ v,Im K H v (.tuple (blkD b))→Q v H
def Zac(K:YC)  : TS:=(Xb (Xk (tB (tOp rNotInD (YU 1) (SlX.tSl K (YU 0) "own_blocks"))) tNever Xq)
 (Xj (tOp rIxD (SlX.tSl K (YU 0) "own_blocks") (YU 1))))
def ZdL:List Str:=["self", "at"]
theorem ZcP{K:YC}{C p1 p2:YF}(T:Zjt K C p1 p2)(vs:List V)(H:Hp)(Q:VK)(E:XK)(h:Zm K C vs H Q E):Zac K { nx:=fun _ H'=>Q .non H',rt:=Q } (start ZdL vs) H:=by
 obtain⟨a,n,P,fp,b,rfl,x,e,q⟩:=h
 show Zac K _ [some (.ref a),some (.str n)] H
 unfold Zac
 obtain⟨dx,nl,d,rfl,h1,h2,h3,m,h4,r4⟩:=x.ex
 rcases r4.val Zdm n with⟨e1,e2⟩ | ⟨v,b',e1,e2,e3⟩
 ·rw[e]at e2; cases e2
 ·rw[e]at e2
  cases e2
  row_readAll go
  refine⟨a,C,dx,p2,_,_,_,rfl,h1,T.c,T.s2,rfl,?_⟩
  refine ZpT h4 ?_
  rw[show valV m (.inr n)=some v from e1]
  simp only[Option.isSome_some,Bool.not_true]
  row_readAll go
  refine⟨a,C,dx,p2,_,_,_,rfl,h1,T.c,T.s2,rfl,?_⟩
  exact Zn2 h4 e1 (q v e3)
end M
namespace M
open PySem L2 L2H SlX
local macro_rules | `(tactic| row_readAll gb) => `(tactic| repeat (first | row_readAll s | simp only [Bool.or_false, Bool.or_true, Bool.true_or, Bool.false_or, Bool.and_true, Bool.true_and, Bool.false_and, Bool.and_false]))
section
variable {K:YC} {H:Hp} {D:Ends} {v0 v1 v3 v5:Option V}
end
end M
namespace M
open PySem L2 L2H
structure CA where
 CI:YF
 CW:YF
 CP:YF
 CF:YF
 CS:YF
abbrev nmI:List Str:=["own_program", "world", "under"]
structure CC(K:YC)(c:CA):Prop where
 i:InsC K c.CI nmI
 w:InsC K c.CW nmW
 ff:PySem.W.exmOne K (.ref c.CF) (.ref c.CF)=some true
 sf:PySem.W.exmOne K (.ref c.CS) (.ref c.CF)=some false
 ss:PySem.W.exmOne K (.ref c.CS) (.ref c.CS)=some true
def Zow(p:Plc):PyData:=.tuple [.str p.1,Zf5 p.2]
structure IA where
 I:YF
 dI:YF
 U:YF
 prg:YF
 pf:List YF
 w:WA
def IA.fx(A:IA):List YF:=[A.w.W,A.w.S,A.w.B,A.w.L,A.w.E,A.U]
def iFs(A:IA):List (Str×V):=[("own_program",.ref A.prg),("world",.ref A.w.W),("under",.ref A.U)]
structure Zcs(K:YC)(H:Hp)(c:CA)(A:IA)(P:Prg)(w:Wd)(un:List Plc):Prop where
 obj:H A.I=some (.ins c.CI A.dI (iFs A))
 wld:Zdr K H c.CW A.w w
 und:∃ l,H A.U=some (.lst l)∧ImAll K H l (un.map Zow)
 prg:Zbs K H c.CP A.prg P A.pf
 ne:A.U≠A.w.L∧A.U≠A.w.E∧A.I≠A.w.W
 pfd:∀ b∈A.pf,b∉A.fx
section
variable {K:YC} {H H':Hp} {c:CA} {A:IA} {P:Prg} {w:Wd} {un:List Plc} {S:List YF}
theorem Zcs.ns(x:Zcs K H c A P w un):A.I∉A.fx∧A.U≠A.w.W∧A.U≠A.w.S∧A.U≠A.w.B∧A.U≠A.w.L∧A.U≠A.w.E:=by
 obtain⟨m1,h1,r1⟩:=x.wld.st
 obtain⟨m2,h2,r2⟩:=x.wld.vs
 obtain⟨l3,h3,r3⟩:=x.wld.sh
 obtain⟨l4,h4,r4⟩:=x.wld.ev
 obtain⟨l5,h5,r5⟩:=x.und
 have h0:=x.wld.obj
 have hI:=x.obj
 refine⟨?_,ZbY h5 h0 (fun z=>nomatch z),ZbY h5 h1 (fun z=>nomatch z),ZbY h5 h2 (fun z=>nomatch z),x.ne.1,x.ne.2.1⟩
 simp only[IA.fx,Yn,Ya,or_false,not_or]
 exact⟨x.ne.2.2,ZbY hI h1 (fun z=>nomatch z),ZbY hI h2 (fun z=>nomatch z),ZbY hI h3 (fun z=>nomatch z),ZbY hI h4 (fun z=>nomatch z),ZbY hI h5 (fun z=>nomatch z)⟩
theorem Zsm{A:IA}{b:YF}(h:b∈A.w.fp):b∈A.fx:=by
 simp only[WA.fp,IA.fx,Yn,Ya,or_false]at h ⊢
 rcases h with rfl | rfl | rfl | rfl | rfl <;> simp
theorem Zcs.keep(x:Zcs K H c A P w un)(k:Zb S H H')(n1:A.I∉S)(n2:∀ b∈A.fx,b∉S)(n3:∀ b∈A.pf,b∉S):Zcs K H' c A P w un:=by
 obtain⟨l5,h5,r5⟩:=x.und
 exact⟨k.obj _ _ n1 x.obj,x.wld.keep k (fun b hb=>n2 b (Zsm hb)),⟨l5,k.obj _ _ (n2 _ (by simp[IA.fx])) h5,r5.mono k⟩,x.prg.keep k n3,x.ne,x.pfd⟩
theorem Zcs.k0(x:Zcs K H c A P w un)(k:Zb [] H H'):Zcs K H' c A P w un:=x.keep k Ya (fun _ _=>Ya) fun _ _=>Ya
end
def FE(K:YC)(c:CA)(k:Str)(t:List Plc)(H:Hp)(E:XK):Prop:=∀ d pv H',Zb [] H H'→H d=none→H' d=some (.xd [("places",pv),("kind",.str k)])→Im K H' pv (.tuple (t.map Zow))→E (.ref c.CF) (some d) H'
def SE(K:YC)(c:CA)(t:List Plc)(H:Hp)(E:XK):Prop:=∀ d pv H',Zb [] H H'→H d=none→H' d=some (.xd [("places",pv)])→Im K H' pv (.tuple (t.map Zow))→E (.ref c.CS) (some d) H'
theorem FE.mono{K:YC}{c:CA}{k:Str}{t:List Plc}{H H1:Hp}{E:XK}(f:FE K c k t H E)(k1:Zb [] H H1):FE K c k t H1 E:=fun d pv H' k' fd hd i=>f d pv H' (k1.trans k') (k1.free fd) hd i
abbrev w0(E:XK):WX:=fun cls d _ H=>E cls d H
def ZU(K:YC)(c:CA):Sp:=fun vs H Q E=>∃ A P w un k,vs=[.ref A.I,.str k]∧Zcs K H c A P w un∧FE K c k un H E
end M
namespace M
open PySem PySem.Spec PyProof.Rows L2
abbrev NK:=NestedKey
mutual
def nkD:NK→PyData
 | .none=>.none
 | .num i=>.int i
 | .text x=>.str x
 | .tup ks=>.tuple (nkDs ks)
def nkDs:List NK→List PyData
 | []=>[]
 | k :: ks=>nkD k :: nkDs ks
end
mutual
theorem Zox:∀ {a b:NK},nkD a=nkD b→a=b
 | .none,b,h=>by cases b <;> simp[nkD]at h ⊢
 | .num i,b,h=>by cases b <;> simp[nkD]at h ⊢; exact h
 | .text x,b,h=>by cases b <;> simp[nkD]at h ⊢; exact h
 | .tup ks,b,h=>by
   cases b with
   | tup ls=>simp only[nkD,PyData.tuple.injEq]at h; rw[nkDs_inj h]
   | none=>simp[nkD]at h
   | num i=>simp[nkD]at h
   | text x=>simp[nkD]at h
theorem nkDs_inj:∀ {a b:List NK},nkDs a=nkDs b→a=b
 | [],[],_=>rfl
 | [],_ :: _,h=>by simp[nkDs]at h
 | _ :: _,[],h=>by simp[nkDs]at h
 | x :: r,y :: t,h=>by
   simp only[nkDs,List.cons.injEq]at h
   rw[Zox h.1,nkDs_inj h.2]
end
section
variable {X:Cx} {pins:List (YF×Obj)} {σ:L2.St} {H:Hp} {s:YJ} {a b:YF}
mutual
theorem Zsn(I:Inv X pins σ H s):∀ {k:NK} {v:V} {u:YI},Im X.K H v (nkD k)→RelV v u→NestedIs s.heap k u
 | .none,v,u,i,r=>by
   simp only[nkD]at i
   cases i
   cases (show u=Value.none from r)
   exact .none
 | .num n,v,u,i,r=>by
   simp only[nkD]at i
   cases i.of_int
   obtain⟨tk,rfl⟩:=r
   exact .int _ _
 | .text x,v,u,i,r=>by
   simp only[nkD]at i
   cases i.of_str
   obtain⟨tk,rfl⟩:=r
   exact .text _ _
 | .tup ks,v,u,i,r=>by
   simp only[nkD]at i
   obtain⟨a,xs,rfl,sx,ax⟩:=i.of_tup
   cases (show u=Value.ref a from r)
   obtain⟨its,rv,⟨o,h1,h2,n,h3⟩,_⟩:=I.tuple sx
   exact .tup h1 h2 h3 (by simpa using nk_all I ax rv)
theorem nk_all(I:Inv X pins σ H s):∀ {ks:List NK} {vs:List V} {us:List YI},ImAll X.K H vs (nkDs ks)→Vals vs us→NestedAll s.heap ks us
 | [],vs,us,i,r=>by
   simp only[nkDs]at i
   cases i.of_nil
   cases r
   exact .nil
 | k :: ks,vs,us,i,r=>by
   simp only[nkDs]at i
   obtain⟨v,l,rfl,h1,h2⟩:=i.of_cons
   cases r with
   | cons r1 r2=>exact .cons (Zsn I h1 r1) (nk_all I h2 r2)
end
end
abbrev NKV:=List (NK×YF×V)
abbrev Zs5(m:NKV)(xs:List (NK×YF×YI)):Prop:=Paired (fun(p:NK×YF×V) (x:NK×YF×YI)=>x.1=p.1∧x.2.1=p.2.1∧RelV p.2.2 x.2.2) m xs
def Zs6(P:YG)(w:YH)(h:Heap)(d:YF)(xs:List (NK×YF×YI)):Prop:=∃ o es ep,h.get? d=some o∧o.ExactDict∧o.data = .dict es ep∧es.toList=xs.map (entryOfKey (nestedKind P w))∧(xs.map (·.1)).Nodup
def DKo(P:YG)(w:YH)(d:YF)(m:NKV):HO:=.ext fun h=>m.length ≤ YM∧(d == sysModules)=false∧∃ xs,Zs5 m xs∧Zs6 P w h d xs
structure DK(K:YC)(P:YG)(w:YH)(H:Hp)(d:YF)(m:NKV):Prop where
 obj:H d=some (DKo P w d m)
 keys:∀ x∈m,x.1.depth ≤ 8∧Im K H (.ref x.2.1) (nkD x.1)
theorem DK.keep{K:YC}{P:YG}{w:YH}{H H':Hp}{d:YF}{m:NKV}{S:List YF}(x:DK K P w H d m)(k:Zb S H H')(n:d∉S):DK K P w H' d m:=⟨k.obj _ _ n x.obj,fun y hy=>⟨(x.keys y hy).1,(x.keys y hy).2.mono k⟩⟩
theorem Zqv{P:YG}{w:YH}{H:Hp}{h:Heap}{d:YF}{m:NKV}{xs:List (NK×YF×YI)}(z:m.length ≤ YM)(hd:(d == sysModules)=false)(r:Zs5 m xs)(q:Zs6 P w h d xs):ObjOk P w H h d (DKo P w d m):=by
 obtain⟨o,es,ep,h1,h2⟩:=id q
 refine⟨⟨z,hd,xs,r,q⟩,⟨o,h1⟩,fun ha hb x st=>?_⟩
 obtain⟨a1,a2,ys,a3,o',es',ep',b1,b2⟩:=x
 exact⟨a1,a2,ys,a3,o',es',ep',st _ b1,b2⟩
section
variable {X:Cx} {pins:List (YF×Obj)} {σ:L2.St} {H:Hp} {s:YJ} {d b:YF} {m:NKV} {p:NK} {o i e:Expr} {pos:Pos} {td ty:TE}
def tDNewK(K:YC)(P:YG)(w:YH):TE:=fun _ H Q=>∀ p H',H p=none→Zb [] H H'→DK K P w H' p []→Q (.ref p) H'
theorem pe_dnewK:PE X (.Dict [] [] pos) (tDNewK X.K X.prog X.w):=by
 refine⟨fun pins s σ H Q I h=>?_⟩
 have hn:=I.hok.fresh (YQ s.heap.objs.size)
 have new:∀ H',ObjOk X.prog X.w H' (s.heap.push { cls:=.type "dict",data:=.dict #[] }) s.heap.objs.size (DKo X.prog X.w s.heap.objs.size []):=fun H'=>by
  obtain⟨o,es,ep,h1,h2,h3,h4,_,h5⟩:=Heap.DictOfH.new (knd:=nestedKind X.prog X.w) s.heap
  exact Zqv (YR _) (beq_eq_false_iff_ne.mpr (Ne.symm (YS I.big))) .nil ⟨o,es,ep,h1,h2,h3,h4,h5⟩
 exact wpAny_Dict_empty ⟨.ref s.heap.objs.size,_,I.laid (a:=s.heap.objs.size) (o:=DKo X.prog X.w s.heap.objs.size []) (t':=s.toks) (fun _ _ q=>YN _ q) (YQ _) (new _),rfl,h _ _ hn (Zb.new hn) ⟨Y_,fun x hx=>by cases hx⟩⟩
end
section
variable {X:Cx}
end
end M
namespace M
open PySem PySem.Spec PySem.Calls PySem.W PyProof.Rows PyProof.V L2 HotX L2H
section
variable {X:Cx} {pins:List (YF×Obj)} {σ:L2.St} {H:Hp} {s:YJ}
mutual
theorem ZmB(I:Inv X pins σ H s):∀ {k:NK} {v:V} {u:YI},Im X.K H v (nkD k)→RelV v u→Reads s.heap u (nkD k) []
 | .none,v,u,i,r=>by
   simp only[nkD]at i ⊢
   cases i
   cases (show u=Value.none from r)
   exact .none
 | .num n,v,u,i,r=>by
   simp only[nkD]at i ⊢
   cases i.of_int
   obtain⟨tk,rfl⟩:=r
   exact .int _ _
 | .text x,v,u,i,r=>by
   simp only[nkD]at i ⊢
   cases i.of_str
   obtain⟨tk,rfl⟩:=r
   exact .str _ _
 | .tup ks,v,u,i,r=>by
   simp only[nkD]at i ⊢
   obtain⟨a,xs,rfl,sx,ax⟩:=i.of_tup
   cases (show u=Value.ref a from r)
   obtain⟨its,rv,⟨o,h1,h2,n,h3⟩,_⟩:=I.tuple sx
   exact .tuple h1 h2 h3 (by simpa using nk_readsAll I ax rv)
theorem nk_readsAll(I:Inv X pins σ H s):∀ {ks:List NK} {vs:List V} {us:List YI},ImAll X.K H vs (nkDs ks)→Vals vs us→ReadsAll s.heap us (nkDs ks) []
 | [],vs,us,i,r=>by
   simp only[nkDs]at i ⊢
   cases i.of_nil
   cases r
   exact .nil
 | k :: ks,vs,us,i,r=>by
   simp only[nkDs]at i ⊢
   obtain⟨v,l,rfl,h1,h2⟩:=i.of_cons
   cases r with
   | cons r1 r2=>exact .cons (ZmB I h1 r1) (nk_readsAll I h2 r2)
end
mutual
theorem ZmC:∀ (k:NK),(nkD k).depth ≤ k.depth + 1
 | .none=>by simp only[nkD,PyData.depth,NestedKey.depth]; omega
 | .num n=>by simp only[nkD,PyData.depth,NestedKey.depth]; omega
 | .text x=>by simp only[nkD,PyData.depth,NestedKey.depth]; omega
 | .tup ks=>by
   have:=nk_depthAll ks
   simp only[nkD,PyData.depth,NestedKey.depth]; omega
theorem nk_depthAll:∀ (ks:List NK),PyData.depthAll (nkDs ks) ≤ NestedKey.depthAll ks + 1
 | []=>by simp only[nkDs,PyData.depthAll]; omega
 | k :: ks=>by
   have h1:=ZmC k
   have h2:=nk_depthAll ks
   simp only[nkDs,PyData.depthAll,NestedKey.depthAll]; omega
end
end
end M
namespace M
open PySem PySem.Spec PyProof.Rows L2
section
variable {X:Cx} {pins:List (YF×Obj)} {σ:L2.St} {H:Hp} {s:YJ} {d:YF} {o:Obj} {m:NKV}
end
section
variable {P:YG} {w:YH} {K:YC} {tg:Expr} {d:YF} {o:Obj} {es:Array DictEntry} {ep:Nat}
end
end M
namespace M
open PySem L2 L2H
def Zbd(K:YC)(c:CA):Sp:=fun vs H Q E=>∃ A P w un,vs=[.ref A.I]∧Zcs K H c A P w un∧(w.left=0→SE K c un H E) ∧
 (w.left≠0→∀ H',Zcs K H' c A P { w with left:=w.left - 1 } un→Zb [A.w.W] H H'→Q .non H')
def RE(K:YC)(c:CA)(t:List Plc)(H:Hp)(Q:VK)(E:XK):Except Str Vl→Prop
 | .ok x=>∀ v H',Im K H' v x.d→Zb [] H H'→Q v H'
 | .error k=>FE K c k t H E
theorem RE.mono{K:YC}{c:CA}{t:List Plc}{H H1:Hp}{Q:VK}{E:XK}{r:Except Str Vl}(f:RE K c t H Q E r)(k1:Zb [] H H1):RE K c t H1 Q E r:=by
 cases r with
 | ok x=>exact fun v H' i k=>f v H' i (k1.trans k)
 | error k=>exact FE.mono f k1
def orE{α : Type}(o:Option α)(k:Str):Except Str α:=match o with
 | some x=>.ok x
 | none=>.error k
def Zx(K:YC)(c:CA):Sp:=fun vs H Q E=>∃ A P w un m n k,vs=[.ref A.I,.str m,.str n,.str k]∧Zcs K H c A P w un∧RE K c un H Q E (orE (valA w.vs (m,n)) k)
def Zao(K:YC)(c:CA):Sp:=fun vs H Q _=>∃ A P w un m n v y,vs=[.ref A.I,.str m,.str n,v]∧Zcs K H c A P w un∧Im K H v (Vl.d y)∧w.vs.length < 100000 ∧
 ∀ H',Zcs K H' c A P { w with vs:=Zcw w.vs (m,n) y } un→Zb [A.w.B] H H'→Q .non H'
def ZbZ(K:YC)(c:CA):Sp:=fun vs H Q E=>∃ A P w un v y,vs=[.ref A.I,v]∧Zcs K H c A P w un∧Im K H v (Vl.d y) ∧
 (match y with
  | .int i=>Q (.int (if i=0 then 1 else 0)) H
  | _=>FE K c "kind" un H E)
section
variable {K:YC} {H:Hp} {v:V}
theorem Im.nm{n:Str}(h:Im K H v (Ex.d (.nm n))):∃ a,v = .ref a∧SqT K H a [.str "name",.str n]:=by
 obtain⟨a,xs,rfl,hs,ha⟩:=(show Im K H v (.tuple [.str "name",.str n])by simpa only[Ex.d]using h).of_tup
 obtain⟨z0,r,rfl,h0,ha⟩:=ha.of_cons
 obtain⟨z1,r,rfl,h1,ha⟩:=ha.of_cons
 cases ha.of_nil; cases h0.of_str; cases h1.of_str
 exact⟨a,rfl,hs⟩
theorem Im.bin{s:Bool}{l t:Ex}(h:Im K H v (Ex.d (.bin s l t))):∃ a x y,v = .ref a∧SqT K H a [.str (opW s),x,y]∧Im K H x (Ex.d l)∧Im K H y (Ex.d t):=by
 obtain⟨a,xs,rfl,hs,ha⟩:=(show Im K H v (.tuple [.str (opW s),l.d,t.d])by simpa only[Ex.d]using h).of_tup
 obtain⟨z0,r,rfl,h0,ha⟩:=ha.of_cons
 obtain⟨z1,r,rfl,h1,ha⟩:=ha.of_cons
 obtain⟨z2,r,rfl,h2,ha⟩:=ha.of_cons
 cases ha.of_nil; cases h0.of_str
 exact⟨a,_,_,rfl,hs,h1,h2⟩
theorem Im.md{m:Str}(h:Im K H v (Vl.d (.md m))):∃ a,v = .ref a∧SqT K H a [.str "module",.str m]:=by
 obtain⟨a,xs,rfl,hs,ha⟩:=(show Im K H v (.tuple [.str "module",.str m])from h).of_tup
 obtain⟨z0,r,rfl,h0,ha⟩:=ha.of_cons
 obtain⟨z1,r,rfl,h1,ha⟩:=ha.of_cons
 cases ha.of_nil; cases h0.of_str; cases h1.of_str
 exact⟨a,rfl,hs⟩
end
def Zs(K:YC)(c:CA)(n:Nat):Sp:=fun vs H Q E=>∃ A P w un m e v,vs=[.ref A.I,.str m,v]∧Zcs K H c A P w un∧Im K H v (Ex.d e)∧e.dep < n∧RE K c un H Q E (evl w.vs m e)
def Zb0(K:YC)(c:CA)(sp:Sp)(W:WX):TS:=(Xj (tIf (Xe (tOp (ZbB K) (tOp (rIx K) (YU 2) (tC (.int 0))) (tC (.str "sum")))) (tOp (rAdd K) (YU 3) (YU 4)) (tCB Zfc (YV (tOp ZkZ (YU 3) (YU 4)) Y1))))
def Zb1(K:YC)(c:CA)(sp:Sp)(W:WX):TS:=(Xb (Xk (tOr (tNot (tB (Xo (Zo K) [] E0 (YV (YU 3) Y1)))) (tNot (tB (Xo (Zo K) [] E0 (YV (YU 4) Y1))))) (Xp (L2H.tMethH c.CI "refuse" (ZU K c) (WE W) (YU 0) (YV (tC (.str "kind")) Y1))) Xq)
 (Zb0 K c sp W))
def ZaG(K:YC)(c:CA)(sp:Sp)(W:WX):TS:=(Xb (Xm (L2H.tMethH c.CI "value" sp (WE W) (YU 0) (YV (YU 1) (YV (tOp (rIx K) (YU 2) (tC (.int 2))) Y1))) (Y6 4))
 (Zb1 K c sp W))
def ZaH(K:YC)(c:CA)(sp:Sp)(W:WX):TS:=(Xb (Xm (L2H.tMethH c.CI "value" sp (WE W) (YU 0) (YV (YU 1) (YV (tOp (rIx K) (YU 2) (tC (.int 1))) Y1))) (Y6 3))
 (ZaG K c sp W))
def ZaI(K:YC)(c:CA)(sp:Sp)(W:WX):TS:=(Xj (L2H.tMethH c.CI "read" (Zx K c) (WE W) (YU 0) (YV (tOp (rIx K) (YU 5) (tC (.int 1))) (YV (tOp (rIx K) (YU 2) (tC (.int 2))) (YV (tC (.str "missing")) Y1)))))
def ZaJ(K:YC)(c:CA)(sp:Sp)(W:WX):TS:=(Xb (Xk (tOr (tB (Xo (Zo K) [] E0 (YV (YU 5) Y1))) (Xe (tOp (Zi8 K) (tOp (rIx K) (YU 5) (tC (.int 0))) (tC (.str "module"))))) (Xp (L2H.tMethH c.CI "refuse" (ZU K c) (WE W) (YU 0) (YV (tC (.str "kind")) Y1))) Xq)
 (ZaI K c sp W))
def ZaK(K:YC)(c:CA)(sp:Sp)(W:WX):TS:=(Xb (Xm (L2H.tMethH c.CI "read" (Zx K c) (WE W) (YU 0) (YV (YU 1) (YV (tOp (rIx K) (YU 2) (tC (.int 1))) (YV (tC (.str "unbound")) Y1)))) (Y6 5))
 (ZaJ K c sp W))
def ZaL(K:YC)(c:CA)(sp:Sp)(W:WX):TS:=(Xb (Xk (Xe (tOp (ZbB K) (tOp (rIx K) (YU 2) (tC (.int 0))) (tC (.str "of")))) (ZaK K c sp W) Xq)
 (ZaH K c sp W))
def ZdM(K:YC)(c:CA)(sp:Sp)(W:WX):TS:=(Xb (Xk (Xe (tOp (ZbB K) (tOp (rIx K) (YU 2) (tC (.int 0))) (tC (.str "name")))) (Xj (L2H.tMethH c.CI "read" (Zx K c) (WE W) (YU 0) (YV (YU 1) (YV (tOp (rIx K) (YU 2) (tC (.int 1))) (YV (tC (.str "unbound")) Y1))))) Xq)
 (ZaL K c sp W))
theorem ZdN{K:YC}{c:CA}{sp:Sp}{W:WX}{D:Ends}{σ:L2.St}{H:Hp}(h:(Xj (tIf (Xe (tOp (ZbB K) (tOp (rIx K) (YU 2) (tC (.int 0))) (tC (.str "sum")))) (tOp (rAdd K) (YU 3) (YU 4)) (tCB Zfc (YV (tOp ZkZ (YU 3) (YU 4)) Y1)))) D σ H):Zb0 K c sp W D σ H:=h
theorem ZdO{K:YC}{c:CA}{sp:Sp}{W:WX}{D:Ends}{σ:L2.St}{H:Hp}(h:(Xb (Xm (L2H.tMethH c.CI "value" sp (WE W) (YU 0) (YV (YU 1) (YV (tOp (rIx K) (YU 2) (tC (.int 2))) Y1))) (Y6 4))
 (Zb1 K c sp W)) D σ H):ZaG K c sp W D σ H:=h
theorem ZdP{K:YC}{c:CA}{sp:Sp}{W:WX}{D:Ends}{σ:L2.St}{H:Hp}(h:(Xb (Xm (L2H.tMethH c.CI "value" sp (WE W) (YU 0) (YV (YU 1) (YV (tOp (rIx K) (YU 2) (tC (.int 1))) Y1))) (Y6 3))
 (ZaG K c sp W)) D σ H):ZaH K c sp W D σ H:=h
theorem ZdQ{K:YC}{c:CA}{sp:Sp}{W:WX}{D:Ends}{σ:L2.St}{H:Hp}(h:(Xj (L2H.tMethH c.CI "read" (Zx K c) (WE W) (YU 0) (YV (tOp (rIx K) (YU 5) (tC (.int 1))) (YV (tOp (rIx K) (YU 2) (tC (.int 2))) (YV (tC (.str "missing")) Y1))))) D σ H):ZaI K c sp W D σ H:=h
theorem ZdR{K:YC}{c:CA}{sp:Sp}{W:WX}{D:Ends}{σ:L2.St}{H:Hp}(h:(Xb (Xk (tOr (tB (Xo (Zo K) [] E0 (YV (YU 5) Y1))) (Xe (tOp (Zi8 K) (tOp (rIx K) (YU 5) (tC (.int 0))) (tC (.str "module"))))) (Xp (L2H.tMethH c.CI "refuse" (ZU K c) (WE W) (YU 0) (YV (tC (.str "kind")) Y1))) Xq)
 (ZaI K c sp W)) D σ H):ZaJ K c sp W D σ H:=h
theorem ZdS{K:YC}{c:CA}{sp:Sp}{W:WX}{D:Ends}{σ:L2.St}{H:Hp}(h:(Xb (Xm (L2H.tMethH c.CI "read" (Zx K c) (WE W) (YU 0) (YV (YU 1) (YV (tOp (rIx K) (YU 2) (tC (.int 1))) (YV (tC (.str "unbound")) Y1)))) (Y6 5))
 (ZaJ K c sp W)) D σ H):ZaK K c sp W D σ H:=h
theorem ZdT{K:YC}{c:CA}{sp:Sp}{W:WX}{D:Ends}{σ:L2.St}{H:Hp}(h:(Xb (Xk (Xe (tOp (ZbB K) (tOp (rIx K) (YU 2) (tC (.int 0))) (tC (.str "of")))) (ZaK K c sp W) Xq)
 (ZaH K c sp W)) D σ H):ZaL K c sp W D σ H:=h
theorem ZdU{K:YC}{c:CA}{sp:Sp}{W:WX}{D:Ends}{σ:L2.St}{H:Hp}(h:(Xb (Xk (Xe (tOp (ZbB K) (tOp (rIx K) (YU 2) (tC (.int 0))) (tC (.str "name")))) (Xj (L2H.tMethH c.CI "read" (Zx K c) (WE W) (YU 0) (YV (YU 1) (YV (tOp (rIx K) (YU 2) (tC (.int 1))) (YV (tC (.str "unbound")) Y1))))) Xq)
 (ZaL K c sp W)) D σ H):ZdM K c sp W D σ H:=h
local macro_rules | `(tactic| row_readAll cu) => `(tactic| first | with_reducible refine ZdN ?_ | with_reducible refine ZdO ?_ | with_reducible refine ZdP ?_ | with_reducible refine ZdQ ?_ | with_reducible refine ZdR ?_ | with_reducible refine ZdS ?_ | with_reducible refine ZdT ?_ | with_reducible refine ZdU ?_)
theorem Im.blk{K:YC}{H:Hp}{v:V}{s:Stm}{k:Nat}{b:List Stm}(h:Im K H v s.d)(e:s.blocks[k]? = some b):∃ a xs y,v = .ref a∧SqT K H a xs∧xs[2 + k]? = some y∧Im K H y (.tuple (blkD b)):=by
 obtain⟨a,xs,rfl,hs,hv⟩:=h.stm
 cases s <;> simp only[Stm.vs]at hv <;> simp only[Stm.blocks]at e
 case fn=>obtain⟨v2,rfl,h2⟩:=hv
          match k,e with
          | 0,e=>cases e; exact⟨a,_,_,rfl,hs,rfl,h2⟩
 case ite=>obtain⟨v1,v2,v3,rfl,h1,h2,h3⟩:=hv
           match k,e with
           | 0,e=>cases e; exact⟨a,_,_,rfl,hs,rfl,h2⟩
           | 1,e=>cases e; exact⟨a,_,_,rfl,hs,rfl,h3⟩
 case tri=>obtain⟨v2,v3,rfl,h2,h3⟩:=hv
           match k,e with
           | 0,e=>cases e; exact⟨a,_,_,rfl,hs,rfl,h2⟩
           | 1,e=>cases e; exact⟨a,_,_,rfl,hs,rfl,h3⟩
 all_goals simp at e
theorem Im.row{K:YC}{H:Hp}{v:V}{b:List Stm}{i:Nat}{s:Stm}(h:Im K H v (.tuple (blkD b)))(e:b[i]? = some s):∃ a xs y,v = .ref a∧SqT K H a xs∧xs[i]? = some y∧Im K H y s.d:=by
 obtain⟨a,xs,rfl,hs,ha⟩:=h.of_tup
 rw[Z_]at ha
 have hl:=ha.length
 rw[Yb]at hl
 have hi:=(Yk.mp e).1
 obtain⟨d,h1,h2⟩:=ha.get (i:=i) (v:=xs[i]'(by omega)) (by simp[show i < xs.length by omega])
 rw[Ym,e]at h1
 cases h1
 exact⟨a,xs,_,rfl,hs,by simp[show i < xs.length by omega],h2⟩
def Ztx(vs:Zkf)(m:Str):Stm→Except Str Zkf
 | .imp t x=>.ok (Zcw vs (m,x) (.md t))
 | .frm t y x=>(match valA vs (t,y)with
   | none=>.error "missing"
   | some v=>.ok (Zcw vs (m,x) v))
 | .star t=>.ok (Zqp vs m t)
 | _=>.ok vs
def Zty:Stm→Bool
 | .imp _ _=>true
 | .frm _ _ _=>true
 | .star _=>true
 | _=>false
def ZaR(K:YC)(c:CA):Sp:=fun vs H Q E=>∃ A P w un m s v,vs=[.ref A.I,.str m,v]∧Zcs K H c A P w un∧Im K H v (Stm.d s)∧Zty s=true∧w.vs.length < 1000∧(w.vs.map (·.1)).Nodup ∧
 (match Ztx w.vs m s with
  | .ok vs'=>∀ H',Zcs K H' c A P { w with vs:=vs' } un→Zb [A.w.B] H H'→Q .non H'
  | .error k=>FE K c k un H E)
end M
namespace M
open PySem L2
structure ZmD(ms ns:List Str)(F:Fb):Prop where
 blk:∀ m b,F m=some b→m∈ms∧wfL b∧(∃ ms',overL ms' ns b)∧depL b ≤ 4∧cntL b ≤ 60
 okm:∀ x∈ms,okN x
 okn:∀ x∈ns,okN x
 few:ms.length * ns.length < 64
 fewm:ms.length < 64
def Zq6(F:Fb):Vl→Prop
 | .int _=>True
 | .md m=>∃ b,F m=some b
 | .fn m p=>∃ b0 b,F m=some b0∧Zqo b0 p=some b
structure ZgM(ms ns:List Str)(F:Fb)(vs:Zkf):Prop where
 all:∀ p∈vs,p.1.1∈ms∧p.1.2∈ns∧Zq6 F p.2
 nd:(vs.map (·.1)).Nodup
theorem ZmE{κ α : Type} [DecidableEq κ] {l:List (κ×α)} {k : κ} {v : α} {p : κ×α} (h:p∈Zcw l k v):p=(k,v)∨p∈l:=by
 unfold Zcw at h
 split at h
 ·obtain⟨q,hq,e⟩:=Yq.mp h
  by_cases z:q.1=k
  ·rw[if_pos z]at e
   left
   rw[← e,z]
  ·rw[if_neg z]at e
   right
   rw[← e]
   exact hq
 ·rcases Yh.mp h with h | h
  ·exact .inr h
  ·left; simpa using h
section
variable {ms ns:List Str} {F:Fb} {vs:Zkf}
theorem ZgM.put(g:ZgM ms ns F vs){m n:Str}{x:Vl}(hm:m∈ms)(hn:n∈ns)(hx:Zq6 F x):ZgM ms ns F (Zcw vs (m,n) x):=by
 refine⟨fun p hp=>?_,Zle g.nd⟩
 rcases ZmE hp with rfl | hp
 ·exact⟨hm,hn,hx⟩
 ·exact g.all p hp
theorem ZgM.val(g:ZgM ms ns F vs){k:ZlJ}{x:Vl}(h:valA vs k=some x):Zq6 F x:=(g.all _ (ZbS h)).2.2
theorem ZiP{m t:Str}(hm:m∈ms):∀ (ks:List ZlJ) (vs:Zkf),(∀ k∈ks,k.2∈ns)→ZgM ms ns F vs→ZgM ms ns F (ZmA m t ks vs)
 | [],vs,_,g=>g
 | k :: r,vs,h,g=>by
   rw[M.ZmA]
   refine ZiP hm r _ (fun z hz=>h z (Yf _ hz)) ?_
   split
   ·cases e:valA vs k with
    | none=>exact g
    | some x=>exact g.put hm (h k Yg) (g.val e)
   ·exact g
theorem ZgM.star(g:ZgM ms ns F vs){m t:Str}(hm:m∈ms):ZgM ms ns F (Zqp vs m t) :=
 ZiP hm _ _ (fun k hk=>by obtain⟨p,hp,rfl⟩:=Yq.mp hk; exact(g.all p hp).2.1) g
end
structure GoodW(ms ns:List Str)(F:Fb)(w:Wd):Prop where
 v:ZgM ms ns F w.vs
 st:∀ p∈w.st,p.1∈ms
 snd:(w.st.map (·.1)).Nodup
 sh:∀ x∈w.shown,Zq6 F x
 ev:∀ e∈w.ev,e.2∈ms∧e.1∈(["half", "again", "begin", "end", "fail"]:List Str)
def phi(w:Wd):Nat:=w.shown.length + w.ev.length + 200 * w.left
def Rs.w:Rs→Wd
 | .ok w=>w
 | .err _ _ w=>w
 | .stop _ w=>w
def Zqw:List Str:=["absent", "kind", "missing", "raised", "unbound"]
def Rs.k:Rs→Prop
 | .err k _ _=>k∈Zqw
 | _=>True
structure Znv(ms ns:List Str)(F:Fb)(w:Wd)(n:Nat)(r:Rs):Prop where
 good:GoodW ms ns F r.w
 ph:phi r.w ≤ phi w + n
 le:r.w.left ≤ w.left
 kd:r.k
section
variable {ms ns:List Str} {F:Fb}
theorem Znv.mono{w:Wd}{a b:Nat}{r:Rs}(p:Znv ms ns F w a r)(h:a ≤ b):Znv ms ns F w b r:=⟨p.good,by have:=p.ph; omega,p.le,p.kd⟩
theorem Znv.step{w w':Wd}{a b:Nat}{r:Rs}(p:Znv ms ns F w a (.ok w'))(q:Znv ms ns F w' b r):Znv ms ns F w (a + b) r:=⟨q.good,by have:=p.ph; have:=q.ph; simp only[Rs.w]at *; omega,by have:=p.le; have:=q.le; simp only[Rs.w]at *; omega,q.kd⟩
end
def isFn:Stm→Bool
 | .fn _ _=>true
 | _=>false
def Zq7:List Stm→Pth→Bool
 | _,[]=>false
 | _,[_]=>false
 | b,i :: k :: p=>match b[i]? with
   | some s=>isFn s || (match s.blocks[k]? with
     | some b'=>Zq7 b' p
     | none=>false)
   | none=>false
def ZmF:List Stm→Pth→Option Stm
 | _,[]=>none
 | b,[i]=>b[i]?
 | b,i :: k :: p=>match b[i]? with
   | some s=>(match s.blocks[k]? with
     | some b'=>ZmF b' p
     | none=>none)
   | none=>none
def ldT:Stm→Option Str
 | .imp t _=>some t
 | .frm t _ _=>some t
 | .star t=>some t
 | _=>none
def isCall:Stm→Bool
 | .call _=>true
 | _=>false
def Ztz(s:Stm)(k:Str):Prop :=
 (k = "stopped" ∧ ((ldT s).isSome=true∨isCall s=true))∨(k = "absent" ∧ (ldT s).isSome=true)∨(k = "raised" ∧ s = .raise) ∨
 (k = "missing" ∧ match s with | .frm _ _ _=>True | .set _ _=>True | .shw _=>True | .call _=>True | .ite _ _ _=>True | _=>False) ∨
 (k = "kind" ∧ match s with | .set _ _=>True | .shw _=>True | .call _=>True | .ite _ _ _=>True | _=>False) ∨
 (k = "unbound" ∧ match s with | .set _ _=>True | .shw _=>True | .call _=>True | .ite _ _ _=>True | .del _=>True | _=>False)
inductive TrC (F:Fb) (k:Str):Str→Bool→List Plc→Prop
 | last {m:Str} {f:Bool} {b0:List Stm} {p:Pth} {s:Stm}:F m=some b0→ZmF b0 p=some s→Zq7 b0 p=f→Ztz s k→TrC F k m f [(m,p)]
 | load {m m':Str} {f:Bool} {b0:List Stm} {p:Pth} {s:Stm} {t:List Plc}:F m=some b0→ZmF b0 p=some s→Zq7 b0 p=f→ldT s=some m'→TrC F k m' false t→TrC F k m f ((m,p) :: t)
 | call {m m':Str} {f:Bool} {b0:List Stm} {p:Pth} {s:Stm} {t:List Plc}:F m=some b0→ZmF b0 p=some s→Zq7 b0 p=f→isCall s=true→TrC F k m' true t→TrC F k m f ((m,p) :: t)
section
variable {F:Fb}
def TrE(F:Fb)(u:List Plc)(m:Str)(f:Bool)(w:Wd):Rs→Prop
 | .ok w'=>w'.left ≤ w.left
 | .err k t w'=>w'.left ≤ w.left∧∃ t1,t=u++t1∧TrC F k m f t1∧t1.length + w'.left ≤ 1 + w.left
 | .stop t w'=>w'.left ≤ w.left∧∃ t1,t=u++t1∧TrC F "stopped" m f t1∧t1.length + w'.left ≤ 1 + w.left
theorem TrE.le{u:List Plc}{m:Str}{f:Bool}{w w0:Wd}{r:Rs}(h:TrE F u m f w r)(l:w.left ≤ w0.left):TrE F u m f w0 r:=by
 cases r with
 | ok w'=>exact Nat.le_trans h l
 | err k t w'=>obtain⟨h1,t1,h2,h3,h4⟩:=h; exact⟨Nat.le_trans h1 l,t1,h2,h3,by omega⟩
 | stop t w'=>obtain⟨h1,t1,h2,h3,h4⟩:=h; exact⟨Nat.le_trans h1 l,t1,h2,h3,by omega⟩
end
def rn(w:Wd)(m:Str):Prop:=valA w.st m=some ("running" : Str)
instance (w:Wd) (m:Str):Decidable (rn w m):=inferInstanceAs (Decidable (_=_))
def Zoy(w:Wd):Rs→Prop
 | .ok w'=>∀ x,rn w' x↔rn w x
 | .err _ _ w'=>∀ x,rn w' x↔rn w x
 | .stop _ _=>True
theorem Zoy.trans{w w':Wd}{r:Rs}(h:∀ x,rn w' x↔rn w x)(s:Zoy w' r):Zoy w r:=by
 cases r with
 | ok v=>exact fun x=>(s x).trans (h x)
 | err k t v=>exact fun x=>(s x).trans (h x)
 | stop t v=>trivial
section
variable {ms ns:List Str} {F:Fb} {D:Nat}
end
end M
namespace M
open PySem L2 L2H SlX
end M
namespace M
open PySem L2 L2H
def Sm(A A':IA)(H:Hp):Prop:=A' = { A with w:={ A.w with B:=A'.w.B } }∧(A'.w.B=A.w.B∨H A'.w.B=none)
theorem Sm.refl(A:IA)(H:Hp):Sm A A H:=⟨rfl,.inl rfl⟩
theorem Sm.fx{A A':IA}{H:Hp}(s:Sm A A' H):∀ x∈A'.fx,x∈A.fx∨H x=none:=by
 obtain⟨e,hB⟩:=s
 intro x hx
 rw[e]at hx
 simp only[IA.fx,Yn,Ya,or_false]at hx ⊢
 rcases hx with h | h | h | h | h | h
 ·exact .inl (.inl h)
 ·exact .inl (.inr (.inl h))
 ·rcases hB with z | z
  ·rw[z]at h; exact .inl (.inr (.inr (.inl h)))
  ·rw[h]; exact .inr z
 ·exact .inl (.inr (.inr (.inr (.inl h))))
 ·exact .inl (.inr (.inr (.inr (.inr (.inl h)))))
 ·exact .inl (.inr (.inr (.inr (.inr (.inr h)))))
theorem Sm.trans{A A1 A2:IA}{H H1:Hp}{S:List YF}(s:Sm A A1 H)(k:Zb S H H1)(t:Sm A1 A2 H1):Sm A A2 H:=by
 obtain⟨e,hB⟩:=s
 obtain⟨e2,hB2⟩:=t
 refine⟨by rw[e2,e],?_⟩
 rcases hB2 with z | z
 ·rw[z]; exact hB
 ·exact .inr (k.free z)
theorem Zb.sm{A A1:IA}{H H1 H2:Hp}(k:Zb A.fx H H1)(s:Sm A A1 H)(k2:Zb A1.fx H1 H2):Zb A.fx H H2:=k.step k2 s.fx
def ZkP(K:YC)(c:CA)(A:IA)(P:Prg)(H:Hp)(ko ke:List Plc→Prop)(Q:VK)(E:XK):Rs→Prop
 | .ok w'=>∀ A' H' un',Zcs K H' c A' P w' un'→ko un'→Sm A A' H→Zb A.fx H H'→Q .non H'
 | .err k t w'=>∀ A' H' un' d pv,Zcs K H' c A' P w' un'→ke un'→Sm A A' H→Zb A.fx H H'→H d=none→H' d=some (.xd [("places",pv),("kind",.str k)])→Im K H' pv (.tuple (t.map Zow))→E (.ref c.CF) (some d) H'
 | .stop t w'=>∀ A' H' un' d pv,Zcs K H' c A' P w' un'→ke un'→Sm A A' H→Zb A.fx H H'→H d=none→H' d=some (.xd [("places",pv)])→Im K H' pv (.tuple (t.map Zow))→E (.ref c.CS) (some d) H'
section
variable {K:YC} {c:CA} {A A1:IA} {P:Prg} {H H1:Hp} {ko ke ko' ke':List Plc→Prop} {Q:VK} {E:XK} {r:Rs}
theorem ZkP.at(o:ZkP K c A P H ko ke Q E r)(s:Sm A A1 H)(k:Zb A.fx H H1):ZkP K c A1 P H1 ko ke Q E r:=by
 cases r with
 | ok w'=>exact fun A' H' un' x h s' k'=>o A' H' un' x h (s.trans k s') (k.sm s k')
 | err kk t w'=>exact fun A' H' un' d pv x h s' k' fd hd i=>o A' H' un' d pv x h (s.trans k s') (k.sm s k') (k.free fd) hd i
 | stop t w'=>exact fun A' H' un' d pv x h s' k' fd hd i=>o A' H' un' d pv x h (s.trans k s') (k.sm s k') (k.free fd) hd i
theorem ZkP.k0(o:ZkP K c A P H ko ke Q E r)(k:Zb [] H H1):ZkP K c A P H1 ko ke Q E r:=o.at (Sm.refl A H) k.nil
theorem ZkP.un(o:ZkP K c A P H ko ke Q E r)(h1:∀ u,ko' u→ko u)(h2:∀ u,ke' u→ke u):ZkP K c A P H ko' ke' Q E r:=by
 cases r with
 | ok w'=>exact fun A' H' un' x h s' k'=>o A' H' un' x (h1 _ h) s' k'
 | err kk t w'=>exact fun A' H' un' d pv x h s' k' fd hd i=>o A' H' un' d pv x (h2 _ h) s' k' fd hd i
 | stop t w'=>exact fun A' H' un' d pv x h s' k' fd hd i=>o A' H' un' d pv x (h2 _ h) s' k' fd hd i
theorem ZkP.fe{k:Str}{t un:List Plc}{w:Wd}(o:ZkP K c A P H ko ke Q E (.err k t w))(x:Zcs K H c A P w un)(h:ke un):FE K c k t H E :=
 fun d pv H' k' fd hd i=>o A H' un d pv (x.k0 k') h (Sm.refl A H) k'.nil fd hd i
theorem ZkP.se{t un:List Plc}{w:Wd}(o:ZkP K c A P H ko ke Q E (.stop t w))(x:Zcs K H c A P w un)(h:ke un):SE K c t H E :=
 fun d pv H' k' fd hd i=>o A H' un d pv (x.k0 k') h (Sm.refl A H) k'.nil fd hd i
end
structure Pre(P:Prg)(w:Wd)(k:Nat)(l:Nat):Prop where
 ex:∃ ms ns,ZmD ms ns (valA P)∧GoodW ms ns (valA P) w
 ph:phi w + 3 * k ≤ 20000
 un:l + w.left ≤ 60
theorem Zfw{α : Type} [DecidableEq α]:∀ {l m:List α},l.Nodup→(∀ x∈l,x∈m)→l.length ≤ m.length
 | [],m,_,_=>YR _
 | x :: l,m,nd,h=>by
   rw[List.nodup_cons]at nd
   have ih:=Zfw (l:=l) (m:=m.erase x) nd.2 fun y hy=>(List.mem_erase_of_ne (fun z=>nd.1 (by rw[← z]; exact hy))).mpr (h y (Yf _ hy))
   have e:=List.length_erase_of_mem (h x Yg)
   have : 0 < m.length:=List.length_pos_of_mem (h x Yg)
   simp only[Yd]
   omega
theorem pairs_len(ns:List Str):∀ ms:List Str,(ms.flatMap fun a=>ns.map fun b=>(a,b)).length=ms.length * ns.length
 | []=>by simp
 | a :: r=>by
   rw[Yz,Yc,Yb,pairs_len ns r,Yd,Nat.succ_mul]
   omega
theorem GoodW.few{ms ns:List Str}{F:Fb}{w:Wd}(gf:ZmD ms ns F)(g:GoodW ms ns F w):w.vs.length < 64:=by
 have h:=Zfw (m:=ms.flatMap fun a=>ns.map fun b=>(a,b)) g.v.nd fun k hk=>by
  obtain⟨p,hp,rfl⟩:=Yq.mp hk
  obtain⟨h1,h2,_⟩:=g.v.all p hp
  exact List.mem_flatMap.mpr ⟨p.1.1,h1,Yq.mpr ⟨p.1.2,h2,rfl⟩⟩
 have e:=pairs_len ns ms
 rw[Yb,e]at h
 exact Nat.lt_of_le_of_lt h gf.few
theorem Pre.sz{P:Prg}{w:Wd}{k l:Nat}(p:Pre P w k l):w.vs.length < 64∧w.ev.length ≤ 20000∧w.shown.length ≤ 20000∧(w.vs.map (·.1)).Nodup∧w.st.length ≤ 1000:=by
 obtain⟨ms,ns,gf,gw⟩:=p.ex
 have h:=p.ph
 unfold phi at h
 refine⟨gw.few gf,by omega,by omega,gw.v.nd,?_⟩
 have:=Zfw gw.snd fun k hk=>by
  obtain⟨q,hq,rfl⟩:=Yq.mp hk
  exact gw.st q hq
 rw[Yb]at this
 have:=gf.fewm
 omega
theorem ImAll.split{K:YC}{H:Hp}:∀ {ds es:List PyData} {l:List V},ImAll K H l (ds++es)→∃ l1 l2,l=l1++l2∧ImAll K H l1 ds∧ImAll K H l2 es
 | [],es,l,h=>⟨[],l,rfl,.nil,h⟩
 | d :: ds,es,l,h=>by
   obtain⟨v,r,rfl,h1,h2⟩:=ImAll.of_cons (show ImAll K H l (d :: (ds++es))from h)
   obtain⟨l1,l2,rfl,h3,h4⟩:=ImAll.split h2
   exact⟨v :: l1,l2,rfl,.cons h1 h3,h4⟩
theorem Pre.step{P:Prg}{w w1:Wd}{a b l:Nat}(p:Pre P w (a + b) l){ms ns:List Str}(gf:ZmD ms ns (valA P))(q:Znv ms ns (valA P) w (3 * a) (.ok w1)):Pre P w1 b l :=
 ⟨⟨ms,ns,gf,q.good⟩,by have:=p.ph; have:=q.ph; simp only[Rs.w]at *; omega,by have:=p.un; have:=q.le; simp only[Rs.w]at *; omega⟩
end M
namespace M
open PySem PySem.Spec PyProof.Rows L2
def Zh3:List V→Hp→VK→Prop:=fun xs H Q=>∃ (a:YF) (kvs:List (Key×V)),xs=[.ref a]∧Rd H a (.dK kvs)∧∀ p H',H p=none→Zb [] H H'→H' p=some (.dK kvs)→Q (.ref p) H'
theorem ZgN{X:Cx}(hc:X.calm=true):CallR X (.type "dict") Zh3:=by
 intro pins s σ H xs us Q I r h
 obtain⟨a,kvs,e,hd,q⟩:=h
 exact call_dictD pins s σ H xs us Q I r ⟨a,kvs,e,hd,fun p hp=>q p _ hp (Zb.new hp) Y_⟩
end M
namespace M
open PySem PySem.Spec PyProof.Rows L2 SlX
section
variable {X:Cx} {pins:List (YF×Obj)} {σ:L2.St} {H:Hp} {s:YJ}
end
structure EqO(P:YG)(w:YH)(K:YC)(mg:Str→Option YI)(base:Heap)(k:Nat)(C:YF)(sp:Sp):Prop where
 ex:∃ g,PySem.W.findIn K (.ref C) "__eq__" = some (some (.ref g))∧PySem.W.isFn K (.ref g)=true∧FnR P w K mg base CX0 k g sp
theorem EqO.op{X:Cx}{k j:Nat}{C:YF}{sp:Sp}(c:EqO X.prog X.w X.K X.mg X.base k C sp)(hr:Room j X.A)(hk:k ≤ j):OpR X (compareOp .Eq) (rOwn X.K C sp E0):=by
 obtain⟨g,h1,h2,F⟩:=c.ex
 exact op_own (op:=.Eq) (fun _ _=>rfl) h1 h2 F (hr.mono hk) C8.pass0
end M
namespace M
open PySem L2 L2H SlX
structure ZtN(K:YC)(C:YF)(p1 p2 p3 p4 p5:YF):Prop where
 c:SCls K C
 s1:Slot1 K C "own_ending" p1 0
 s2:Slot1 K C "own_shown" p2 2
 s3:Slot1 K C "own_events" p3 1
 s4:Slot1 K C "own_trail" p4 4
 s5:Slot1 K C "own_spaces" p5 3
def Zct(K:YC)(C:YF):Sp:=fun vs H Q _=>∃ a dx e l1 l2 t d xs ys zs,vs=[.ref a,.str e,.ref l1,.ref l2,.ref t,.ref d]∧H a=some (.ins C dx [])∧H dx=some (.own a)∧dx≠a∧H l1=some (.lst xs)∧H l2=some (.lst ys)∧SqT K H t zs ∧
 ∀ s1 s2 H',Slt H' a C dx [some (.str e),some (.ref s2),some (.ref s1),some (.ref d),some (.ref t)]→SqT K H' s1 xs→SqT K H' s2 ys→H' dx=some (.xd [])→Zb [a,dx] H H'→Q .non H'
end M
namespace M
open PySem L2 L2H
structure SpE where
 st:Str
 dd:YF
 vs:List (Str×Vl)
def SpR(K:YC)(H:Hp)(v:V)(e:SpE):Prop:=∃ t m2,v = .ref t∧SqT K H t [.str e.st,.ref e.dd]∧H e.dd=some (.dK m2)∧Zc1 kS (fun v x=>Im K H v (Vl.d x)) m2 e.vs
structure Zl8(K:YC)(H:Hp)(d:YF)(es:List (Str×SpE)):Prop where
 ex:∃ mm,H d=some (.dK mm)∧Zc1 kS (SpR K H) mm es
 nd:(d :: es.map (·.2.dd)).Nodup
theorem SpR.mono{K:YC}{H H':Hp}{S:List YF}{v:V}{e:SpE}(h:SpR K H v e)(k:Zb S H H')(n:e.dd∉S):SpR K H' v e:=by
 obtain⟨t,m2,rfl,h1,h2,h3⟩:=h
 exact⟨t,m2,rfl,k.sqT h1,k.obj _ _ n h2,h3.mono fun v x i=>i.mono k⟩
theorem Zkh{κ κ' α : Type}{f : κ→κ'}{R R':V→α→Prop}{m:List (κ'×V)}{l:List (κ×α)}(h:Zc1 f R m l):(∀ v p,p∈l→R v p.2→R' v p.2)→Zc1 f R' m l:=by
 induction h with
 | nil=>exact fun _=>.nil
 | cons h t ih=>exact fun g=>.cons (g _ (_,_) Yg h) (ih fun v p hp r=>g v p (Yf _ hp) r)
theorem Zl8.keep{K:YC}{H H':Hp}{S:List YF}{d:YF}{es:List (Str×SpE)}(x:Zl8 K H d es)(k:Zb S H H')(n:∀ b∈d :: es.map (·.2.dd),b∉S):Zl8 K H' d es:=by
 obtain⟨mm,h1,h2⟩:=x.ex
 refine⟨⟨mm,k.obj _ _ (n _ Yg) h1,Zkh h2 fun v p hp r=>r.mono k (n _ (Yf _ (Yv (f:=(·.2.dd)) hp)))⟩,x.nd⟩
theorem Zl8.k0{K:YC}{H H':Hp}{d:YF}{es:List (Str×SpE)}(x:Zl8 K H d es)(k:Zb [] H H'):Zl8 K H' d es:=x.keep k fun _ _=>Ya
def Zso(m:Str)(vs':List (Str×Vl))(es:List (Str×SpE)):List (Str×SpE):=es.map fun p=>(p.1,if p.1=m then { p.2 with vs:=vs' } else p.2)
theorem Zki(m:Str)(vs':List (Str×Vl)):∀ (es:List (Str×SpE)) (x:Str),valA (Zso m vs' es) x=(valA es x).map fun e=>if x=m then { e with vs:=vs' } else e
 | [],x=>rfl
 | p :: r,x=>by
   have ih:=Zki m vs' r x
   unfold Zso at ih ⊢
   rw[Yr,Zck,Zck,ih]
   by_cases e:p.1=x
   ·rw[if_pos e,if_pos e]
    subst e
    rfl
   ·rw[if_neg e,if_neg e]
def Zl9(vs:Zkf)(m:Str)(ks:List ZlJ):List (Str×Vl):=ks.filterMap fun k=>if k.1=m then(valA vs k).map fun x=>(k.2,x)else none
section
variable {K:YC} {H H':Hp} {d:YF} {es:List (Str×SpE)}
theorem Zl8.new{m st:Str}{t dd:YF}{mm:List (Key×V)}(x:Zl8 K H d es)(hm:H d=some (.dK mm))(r:Zc1 kS (SpR K H) mm es)(k:Zb [d] H H')(h:H' d=some (.dK (putK mm (kS m) (.ref t))))(nm:valA es m=none)(ht:SqT K H t [.str st,.ref dd])(hd:H dd=some (.dK []))(ne:dd≠d)(nn:dd∉es.map (·.2.dd)) :
  Zl8 K H' d (es++[(m,⟨st,dd,[]⟩)]):=by
 have nd:=x.nd
 rw[List.nodup_cons]at nd
 have e:es++[(m,(⟨st,dd,[]⟩:SpE))]=Zcw es m ⟨st,dd,[]⟩:=(Zkg (ZcJ.mp nm)).symm
 refine⟨⟨_,h,?_⟩,?_⟩
 ·rw[e]
  have r2:Zc1 kS (SpR K H') mm es:=Zkh r fun v p hp z=>z.mono k (by
   simp only[Ye]
   exact fun z=>nd.1 (by rw[← z]; exact Yv (f:=(·.2.dd)) hp))
  exact r2.put Zdm ⟨t,[],rfl,k.sqT ht,k.obj _ _ (by simpa using ne) hd,.nil⟩
 ·rw[Yl,List.nodup_cons]
  refine⟨fun z=>?_,?_⟩
  ·rcases Yh.mp z with z | z
   ·exact nd.1 z
   ·have z:d=dd:=by simpa using z
    exact ne z.symm
  ·rw[List.nodup_append]
   refine⟨nd.2,by simp,fun a ha b hb=>?_⟩
   have hb:b=dd:=by simpa using hb
   rw[hb]
   exact fun z=>nn (by rw[← z]; exact ha)
end
end M
namespace M
open PySem L2 L2H SlX
theorem ZiQ(vs:Zkf)(m:Str)(ks:List ZlJ)(k:ZlJ):Zl9 vs m (ks++[k])=Zl9 vs m ks++(if k.1=m then((valA vs k).map fun x=>(k.2,x)).toList else[]):=by
 unfold Zl9
 rw[List.filterMap_append]
 congr 1
 by_cases e:k.1=m
 ·rw[if_pos e,List.filterMap_cons,if_pos e]
  cases valA vs k <;> rfl
 ·rw[if_neg e,List.filterMap_cons,if_neg e]
  rfl
theorem ZlM{vs:Zkf}{m n:Str}{ks:List ZlJ}(h:n∈(Zl9 vs m ks).map (·.1)):(m,n)∈ks:=by
 obtain⟨p,hp,rfl⟩:=Yq.mp h
 unfold Zl9 at hp
 obtain⟨k,hk,e⟩:=List.mem_filterMap.mp hp
 split at e
 ·rename_i em
  cases ev:valA vs k with
  | none=>rw[ev]at e; cases e
  | some x =>
    rw[ev]at e
    cases e
    rw[← em]
    exact hk
 ·cases e
def Sp1(w:Wd)(pre:List ZlJ)(es:List (Str×SpE)):Prop:=∀ m,match valA es m with
 | some e=>(∃ k∈pre,k.1=m)∧e.st=told w m∧e.vs=Zl9 w.vs m pre
 | none=>∀ k∈pre,k.1≠m
def Sp2(w:Wd)(es:List (Str×SpE)):Prop:=∀ m,match valA es m with
 | some e=>e.st=told w m∧e.vs=Zl9 w.vs m (Zli (w.vs.map (·.1)))
 | none=>told w m = "absent" ∧ Zl9 w.vs m (Zli (w.vs.map (·.1)))=[]
structure ZoU(K:YC)(H:Hp)(C a:YF)(e:Str)(w:Wd)(t:List Plc)(es:List (Str×SpE))(fp:List YF):Prop where
 ex:∃ dx s1 s2 s3 d,fp=[a,dx,d]∧Slt H a C dx [some (.str e),some (.ref s2),some (.ref s1),some (.ref d),some (.ref s3)]∧H dx=some (.xd [])∧Im K H (.ref s1) (.tuple (w.shown.map Vl.d))∧Im K H (.ref s2) (.tuple (w.ev.map evD))∧Im K H (.ref s3) (.tuple (t.map Zow))∧Zl8 K H d es
 sp:Sp2 w es
 un:(es.map (·.1)).Nodup
 fu:∀ m e,valA es m=some e→told w m ≠ "absent" ∨ e.vs≠[]
def ZtA(w:Wd)(pre:List ZlJ)(es:List (Str×SpE))(m:Str):Prop:=∀ m',m'≠m→match valA es m' with
 | some e=>(∃ k∈pre,k.1=m')∧e.st=told w m'∧e.vs=Zl9 w.vs m' pre
 | none=>∀ k∈pre,k.1≠m'
theorem Sp1.add{w:Wd}{pre:List ZlJ}{es:List (Str×SpE)}{m n:Str}(h:ZtA w pre es m){x:Vl}{e:SpE}(hv:valA es m=some e)(hx:valA w.vs (m,n)=some x)(he:e.st=told w m)(heb:e.vs=Zl9 w.vs m pre)(nn:(m,n)∉pre):Sp1 w (pre++[(m,n)]) (Zso m (Zcw e.vs n x) es):=by
 intro m'
 rw[Zki]
 by_cases em:m'=m
 ·subst em
  rw[hv]
  simp only[Option.map_some,if_true]
  refine⟨⟨(m',n),by simp,rfl⟩,he,?_⟩
  rw[ZiQ,if_pos rfl,hx,heb]
  exact Zkg fun z=>nn (ZlM z)
 ·have hh:=h m' em
  cases ev:valA es m' with
  | none =>
    rw[ev]at hh
    intro k hk
    rcases Yh.mp hk with hk | hk
    ·exact hh k hk
    ·rw[Ye.mp hk]; exact fun z=>em z.symm
  | some e' =>
    rw[ev]at hh
    simp only[Option.map_some,em,if_false]
    obtain⟨⟨k,hk,ek⟩,h2,h3⟩:=hh
    refine⟨⟨k,Yo _ hk,ek⟩,h2,?_⟩
    rw[ZiQ,if_neg (fun z=>em z.symm),List.append_nil]
    exact h3
end M
namespace M
open PySem PySem.Spec PyProof.Rows L2 L2H SlX
def ZmG(m:List (Key×V)):List V:=m.map fun p=>kV p.1
theorem ZiR(m:List (Key×V)):(ZmG m).length=m.length:=by simp[ZmG]
section
variable {K:YC} {σ:L2.St} {H:Hp} {Q:VK} {D:Ends} {S:List YF}
theorem Wk.keys{d:YF}{o:Obj}{m:List (Key×V)}(h:H d=some (.frz o (.dK m))):Wk S (Itk d o m) (ZmG m) H:=fun H2 k =>
 ⟨⟨k.frz _ _ _ h,by rw[ZiR]; exact YQ _⟩,fun i hi=>⟨k.frz _ _ _ h,by rw[ZiR]at hi; exact hi⟩,fun i x H3 _ y=>by
  obtain⟨e,k',v,e1,e2⟩:=y
  refine⟨?_,e ▸ Zb.refl _ _⟩
  unfold ZmG
  rw[Ym,e1,e2]
  rfl⟩
end
structure DKz(K:YC)(P:YG)(w:YH)(H:Hp)(d:YF)(o:Obj)(m:NKV):Prop where
 obj:H d=some (.frz o (DKo P w d m))
 keys:∀ x∈m,x.1.depth ≤ 8∧Im K H (.ref x.2.1) (nkD x.1)
theorem DKz.keep{K:YC}{P:YG}{w:YH}{H H':Hp}{d:YF}{o:Obj}{m:NKV}{S:List YF}(x:DKz K P w H d o m)(k:Zb S H H'):DKz K P w H' d o m:=⟨k.frz _ _ _ x.obj,fun y hy=>⟨(x.keys y hy).1,(x.keys y hy).2.mono k⟩⟩
section
variable {X:Cx} {pins:List (YF×Obj)} {σ:L2.St} {H:Hp} {s:YJ} {d b:YF} {oo:Obj} {m:NKV} {p:NK} {o i e:Expr} {pos:Pos} {td ty:TE}
end
section
variable {K:YC} {P:YG} {w:YH} {σ:L2.St} {H:Hp} {Q:VK} {D:Ends} {S:List YF}
end
section
variable {K:YC} {P:YG} {w:YH} {σ:L2.St} {H:Hp} {Q:VK}
end
end M
namespace M
open PySem L2 L2H SlX
def ZbK(K:YC)(CW CO:YF)(E:XK):TS:=(Xm (tOp rIxD (Xi K (YU 0) "bindings") (ZgL (YV (YU 4) (YV (YU 5) Y1)))) (gSub (tOp (rIx K) (tOp rIxD (YU 3) (YU 4)) (tC (.int 1))) (YU 5) rSetD))
def ZbL(K:YC)(CW CO:YF)(E:XK):TS:=(Xb (Xk (tB (tOp rNotInD (YU 4) (YU 3))) (Xm (ZgL (YV (Xl CW "told_status" (Zb7 K CW) [] E0 (YU 0) (YV (YU 4) Y1)) (YV Zjh Y1))) (gSub (YU 3) (YU 4) rSetD)) Xq)
 (ZbK K CW CO E))
def ZfE(K:YC)(CW CO:YF)(E:XK):TS:=(Xb (tFor (iList K (tCB rSortT (YV (Xi K (YU 0) "bindings") Y1))) (gTup K 2 (gCons (Y6 4) (gCons (Y6 5) gNil))) (ZbL K CW CO E))
 (Xb (tLock (tFor (iKeys (Xi K (YU 0) "statuses")) (Y6 4) (Xk (tAnd (tB (tOp rNotInD (YU 4) (YU 3))) (Xe (tOp (Zi8 K) (tOp rIxD (Xi K (YU 0) "statuses") (YU 4)) (tC (.str "absent"))))) (Xm (ZgL (YV (tOp rIxD (Xi K (YU 0) "statuses") (YU 4)) (YV Zjh Y1))) (gSub (YU 3) (YU 4) rSetD)) Xq)))
 (Xj (tMake CO (Zct K CO) [] E0 (YV (YU 1) (YV (Xi K (YU 0) "lines") (YV (Xi K (YU 0) "happened") (YV (YU 2) (YV (YU 3) Y1)))))))))
theorem ZfF{K:YC}{CW CO:YF}{E:XK}{D:Ends}{σ:L2.St}{H:Hp}(h:(Xm (tOp rIxD (Xi K (YU 0) "bindings") (ZgL (YV (YU 4) (YV (YU 5) Y1)))) (gSub (tOp (rIx K) (tOp rIxD (YU 3) (YU 4)) (tC (.int 1))) (YU 5) rSetD)) D σ H):ZbK K CW CO E D σ H:=h
theorem ZfG{K:YC}{CW CO:YF}{E:XK}{D:Ends}{σ:L2.St}{H:Hp}(h:(Xb (Xk (tB (tOp rNotInD (YU 4) (YU 3))) (Xm (ZgL (YV (Xl CW "told_status" (Zb7 K CW) [] E0 (YU 0) (YV (YU 4) Y1)) (YV Zjh Y1))) (gSub (YU 3) (YU 4) rSetD)) Xq)
 (ZbK K CW CO E)) D σ H):ZbL K CW CO E D σ H:=h
theorem ZfH{K:YC}{CW CO:YF}{E:XK}{D:Ends}{σ:L2.St}{H:Hp}(h:(Xb (tFor (iList K (tCB rSortT (YV (Xi K (YU 0) "bindings") Y1))) (gTup K 2 (gCons (Y6 4) (gCons (Y6 5) gNil))) (ZbL K CW CO E))
 (Xb (tLock (tFor (iKeys (Xi K (YU 0) "statuses")) (Y6 4) (Xk (tAnd (tB (tOp rNotInD (YU 4) (YU 3))) (Xe (tOp (Zi8 K) (tOp rIxD (Xi K (YU 0) "statuses") (YU 4)) (tC (.str "absent"))))) (Xm (ZgL (YV (tOp rIxD (Xi K (YU 0) "statuses") (YU 4)) (YV Zjh Y1))) (gSub (YU 3) (YU 4) rSetD)) Xq)))
 (Xj (tMake CO (Zct K CO) [] E0 (YV (YU 1) (YV (Xi K (YU 0) "lines") (YV (Xi K (YU 0) "happened") (YV (YU 2) (YV (YU 3) Y1))))))))) D σ H):ZfE K CW CO E D σ H:=h
local macro_rules | `(tactic| row_readAll cu) => `(tactic| first | with_reducible refine ZfF ?_ | with_reducible refine ZfG ?_ | with_reducible refine ZfH ?_)
theorem ZoU.keep{K:YC}{H H':Hp}{C a:YF}{e:Str}{w:Wd}{t:List Plc}{es:List (Str×SpE)}{fp S:List YF}(x:ZoU K H C a e w t es fp)(k:Zb S H H')(n:∀ b∈fp++es.map (·.2.dd),b∉S):ZoU K H' C a e w t es fp:=by
 obtain⟨dx,s1,s2,s3,d,rfl,h1,h2,h3,h4,h5,h6⟩:=x.ex
 have n1:a∉S:=n a (by simp)
 have n2:dx∉S:=n dx (by simp)
 refine⟨⟨dx,s1,s2,s3,d,rfl,Slt.keep (b:=.own 0) h1 k n1 n2,k.obj _ _ n2 h2,h3.mono k,h4.mono k,h5.mono k,h6.keep k fun b hb=>n b ?_⟩,x.sp,x.un,x.fu⟩
 rcases Yn.mp hb with rfl | hb
 ·simp
 ·exact Yp _ hb
theorem ZoU.k0{K:YC}{H H':Hp}{C a:YF}{e:Str}{w:Wd}{t:List Plc}{es:List (Str×SpE)}{fp:List YF}(x:ZoU K H C a e w t es fp)(k:Zb [] H H'):ZoU K H' C a e w t es fp:=x.keep k fun _ _=>Ya
end M
namespace M
open PySem L2 L2H
theorem Zb.one{S:List YF}{a:YF}{H H1:Hp}(k:Zb [a] H H1)(h:a∈S):Zb S H H1:=k.mono fun b hb=>by rw[Ye.mp hb]; exact h
theorem ZlN{K:YC}{σ:L2.St}{H:Hp}{R:L2.St→Hp→Prop}{a:YF}{x y z:V}{i j k:Nat}(h:SqT K H a [x,y,z])(q:R (((σ.set i (some x)).set j (some y)).set k (some z)) H):gTup K 3 (gCons (Y6 i) (gCons (Y6 j) (gCons (Y6 k) gNil))) (.ref a) σ H R :=
 ⟨a,[x,y,z],rfl,h,rfl,x,[y,z],rfl,y,[z],rfl,z,[],rfl,rfl,q⟩
def ZaS(K:YC)(c:CA)(sp:Sp)(W:WX):TS:=(Xb (Xp (tBM0 K "list" rPop (Xi K (YU 0) "under")))
 (Xp (Xl c.CW "leave" (ZeO K c.CW) [] E0 (Xi K (YU 0) "world") (YV (YU 1) Y1))))
def ZaT(K:YC)(c:CA)(sp:Sp)(W:WX):TS:=(Xb (fun D σ H=>(fun W:WX=>(Xp (L2H.tMethH c.CI "go" sp (WE W) (YU 0) (YV (YU 1) (YV (Zf K Y1) (YV (tOp (ZoP c.CP (Zm K c.CP) E0) (Xi K (YU 0) "own_program") (YU 1)) Y1)))))) ((Znl K (.ref c.CF) (fun a cls d=>(Xb (Xp (Xl c.CW "fail" (Zfv K c.CW) [] E0 (Xi K (YU 0) "world") (YV (YU 1) Y1)))
 (fun _ σ H=>W cls d σ H))) (fun _=>W)) D) D σ H)
 (ZaS K c sp W))
def ZaU(K:YC)(c:CA)(sp:Sp)(W:WX):TS:=(Xb (Xp (tBM K "list" rAppend (Xi K (YU 0) "under") (YV (ZgL (YV (YU 1) (YV (Zf K Y1) Y1))) Y1)))
 (ZaT K c sp W))
def ZaV(K:YC)(c:CA)(sp:Sp)(W:WX):TS:=(Xb (Xp (Xl c.CW "enter" (ZeN K c.CW) [] E0 (Xi K (YU 0) "world") (YV (YU 1) Y1)))
 (ZaU K c sp W))
def ZaW(K:YC)(c:CA)(sp:Sp)(W:WX):TS:=(Xb (Xp (L2H.tMethH c.CI "take_block" (Zbd K c) (WE W) (YU 0) Y1))
 (ZaV K c sp W))
def Zeh(K:YC)(c:CA)(sp:Sp)(W:WX):TS:=(Xb (Xk (tB (Xl c.CW "meet" (Zfu K c.CW) [] E0 (Xi K (YU 0) "world") (YV (YU 1) Y1))) tRetN Xq)
 (ZaW K c sp W))
theorem Zei{K:YC}{c:CA}{sp:Sp}{W:WX}{D:Ends}{σ:L2.St}{H:Hp}(h:(Xb (Xp (tBM0 K "list" rPop (Xi K (YU 0) "under")))
 (Xp (Xl c.CW "leave" (ZeO K c.CW) [] E0 (Xi K (YU 0) "world") (YV (YU 1) Y1)))) D σ H):ZaS K c sp W D σ H:=h
theorem Zej{K:YC}{c:CA}{sp:Sp}{W:WX}{D:Ends}{σ:L2.St}{H:Hp}(h:(Xb (fun D σ H=>(fun W:WX=>(Xp (L2H.tMethH c.CI "go" sp (WE W) (YU 0) (YV (YU 1) (YV (Zf K Y1) (YV (tOp (ZoP c.CP (Zm K c.CP) E0) (Xi K (YU 0) "own_program") (YU 1)) Y1)))))) ((Znl K (.ref c.CF) (fun a cls d=>(Xb (Xp (Xl c.CW "fail" (Zfv K c.CW) [] E0 (Xi K (YU 0) "world") (YV (YU 1) Y1)))
 (fun _ σ H=>W cls d σ H))) (fun _=>W)) D) D σ H)
 (ZaS K c sp W)) D σ H):ZaT K c sp W D σ H:=h
theorem Zek{K:YC}{c:CA}{sp:Sp}{W:WX}{D:Ends}{σ:L2.St}{H:Hp}(h:(Xb (Xp (tBM K "list" rAppend (Xi K (YU 0) "under") (YV (ZgL (YV (YU 1) (YV (Zf K Y1) Y1))) Y1)))
 (ZaT K c sp W)) D σ H):ZaU K c sp W D σ H:=h
theorem Zel{K:YC}{c:CA}{sp:Sp}{W:WX}{D:Ends}{σ:L2.St}{H:Hp}(h:(Xb (Xp (Xl c.CW "enter" (ZeN K c.CW) [] E0 (Xi K (YU 0) "world") (YV (YU 1) Y1)))
 (ZaU K c sp W)) D σ H):ZaV K c sp W D σ H:=h
theorem Zem{K:YC}{c:CA}{sp:Sp}{W:WX}{D:Ends}{σ:L2.St}{H:Hp}(h:(Xb (Xp (L2H.tMethH c.CI "take_block" (Zbd K c) (WE W) (YU 0) Y1))
 (ZaV K c sp W)) D σ H):ZaW K c sp W D σ H:=h
theorem Zen{K:YC}{c:CA}{sp:Sp}{W:WX}{D:Ends}{σ:L2.St}{H:Hp}(h:(Xb (Xk (tB (Xl c.CW "meet" (Zfu K c.CW) [] E0 (Xi K (YU 0) "world") (YV (YU 1) Y1))) tRetN Xq)
 (ZaW K c sp W)) D σ H):Zeh K c sp W D σ H:=h
local macro_rules | `(tactic| row_readAll cu) => `(tactic| first | with_reducible refine Zei ?_ | with_reducible refine Zej ?_ | with_reducible refine Zek ?_ | with_reducible refine Zel ?_ | with_reducible refine Zem ?_ | with_reducible refine Zen ?_)
theorem RE.of{K:YC}{c:CA}{un:List Plc}{H:Hp}{Q:VK}{E:XK}{r:Except Str Vl}(h1:∀ k,r = .error k→FE K c k un H E)(h2:∀ y,r = .ok y→∀ v H',Im K H' v y.d→Zb [] H H'→Q v H'):RE K c un H Q E r:=by
 cases r with
 | error k=>exact h1 k rfl
 | ok y=>exact h2 y rfl
def Zeo(K:YC)(c:CA)(ld:YF)(spl spc spg spa:Sp)(W:WX):TS:=(Xb (Xp (L2H.tMethH c.CI "load" spl (WE W) (YU 0) (YV (tOp (rIx K) (YU 3) (tC (.int 1))) Y1)))
 (Xp (L2H.tMethH c.CI "bind_loaded" (ZaR K c) (WE W) (YU 0) (YV (YU 1) (YV (YU 3) Y1)))))
def ZaX(K:YC)(c:CA)(ld:YF)(spl spc spg spa:Sp)(W:WX):TS:=(Xp (L2H.tMethH c.CI "bind" (Zao K c) (WE W) (YU 0) (YV (YU 1) (YV (tOp (rIx K) (YU 3) (tC (.int 1))) (YV (L2H.tMethH c.CI "value" (Zs K c 10) (WE W) (YU 0) (YV (YU 1) (YV (tOp (rIx K) (YU 3) (tC (.int 2))) Y1))) Y1)))))
def ZaY(K:YC)(c:CA)(ld:YF)(spl spc spg spa:Sp)(W:WX):TS:=(Xb (Xp (L2H.tMethH c.CI "read" (Zx K c) (WE W) (YU 0) (YV (YU 1) (YV (tOp (rIx K) (YU 3) (tC (.int 1))) (YV (tC (.str "unbound")) Y1)))))
 (ZpW (Xi K (Xi K (YU 0) "world") "bindings") (ZgL (YV (YU 1) (YV (tOp (rIx K) (YU 3) (tC (.int 1))) Y1)))))
def ZaZ(K:YC)(c:CA)(ld:YF)(spl spc spg spa:Sp)(W:WX):TS:=(Xp (tBM K "list" rAppend (Xi K (Xi K (YU 0) "world") "lines") (YV (L2H.tMethH c.CI "value" (Zs K c 10) (WE W) (YU 0) (YV (YU 1) (YV (tOp (rIx K) (YU 3) (tC (.int 1))) Y1))) Y1)))
def Za0(K:YC)(c:CA)(ld:YF)(spl spc spg spa:Sp)(W:WX):TS:=(Xp (L2H.tMethH c.CI "bind" (Zao K c) (WE W) (YU 0) (YV (YU 1) (YV (tOp (rIx K) (YU 3) (tC (.int 1))) (YV (Zf K (YV (tC (.str "function")) (YV (YU 1) (YV (YU 2) Y1)))) Y1)))))
def Za1(K:YC)(c:CA)(ld:YF)(spl spc spg spa:Sp)(W:WX):TS:=(Xp (L2H.tMethH c.CI "call" spc (WE W) (YU 0) (YV (L2H.tMethH c.CI "value" (Zs K c 10) (WE W) (YU 0) (YV (YU 1) (YV (tOp (rIx K) (YU 3) (tC (.int 1))) Y1))) Y1)))
def Za2(K:YC)(c:CA)(ld:YF)(spl spc spg spa:Sp)(W:WX):TS:=(Xb (Xm (L2H.tMethH c.CI "choice" (ZbZ K c) (WE W) (YU 0) (YV (L2H.tMethH c.CI "value" (Zs K c 10) (WE W) (YU 0) (YV (YU 1) (YV (tOp (rIx K) (YU 3) (tC (.int 1))) Y1))) Y1)) (Y6 5))
 (Xp (L2H.tMethH c.CI "go" spg (WE W) (YU 0) (YV (YU 1) (YV (tOp (rAdd K) (YU 2) (Zf K (YV (YU 5) Y1))) (YV (tOp (rIx K) (YU 3) (tOp (rAdd K) (tC (.int 2)) (YU 5))) Y1))))))
def Za3(K:YC)(c:CA)(ld:YF)(spl spc spg spa:Sp)(W:WX):TS:=(Xp (L2H.tMethH c.CI "attempt" spa (WE W) (YU 0) (YV (YU 1) (YV (YU 2) (YV (YU 3) Y1)))))
def Za4(K:YC)(c:CA)(ld:YF)(spl spc spg spa:Sp)(W:WX):TS:=(Xp (L2H.tMethH c.CI "refuse" (ZU K c) (WE W) (YU 0) (YV (tC (.str "raised")) Y1)))
def Za5(K:YC)(c:CA)(ld:YF)(spl spc spg spa:Sp)(W:WX):TS:=(Xk (Xe (tOp (ZbB K) (YU 4) (tC (.str "try")))) (Za3 K c ld spl spc spg spa W) (Za4 K c ld spl spc spg spa W))
def Za6(K:YC)(c:CA)(ld:YF)(spl spc spg spa:Sp)(W:WX):TS:=(Xk (Xe (tOp (ZbB K) (YU 4) (tC (.str "if")))) (Za2 K c ld spl spc spg spa W) (Za5 K c ld spl spc spg spa W))
def Za7(K:YC)(c:CA)(ld:YF)(spl spc spg spa:Sp)(W:WX):TS:=(Xk (Xe (tOp (ZbB K) (YU 4) (tC (.str "call")))) (Za1 K c ld spl spc spg spa W) (Za6 K c ld spl spc spg spa W))
def Za8(K:YC)(c:CA)(ld:YF)(spl spc spg spa:Sp)(W:WX):TS:=(Xk (Xe (tOp (ZbB K) (YU 4) (tC (.str "def")))) (Za0 K c ld spl spc spg spa W) (Za7 K c ld spl spc spg spa W))
def Za9(K:YC)(c:CA)(ld:YF)(spl spc spg spa:Sp)(W:WX):TS:=(Xk (Xe (tOp (ZbB K) (YU 4) (tC (.str "show")))) (ZaZ K c ld spl spc spg spa W) (Za8 K c ld spl spc spg spa W))
def Za_(K:YC)(c:CA)(ld:YF)(spl spc spg spa:Sp)(W:WX):TS:=(Xk (Xe (tOp (ZbB K) (YU 4) (tC (.str "del")))) (ZaY K c ld spl spc spg spa W) (Za9 K c ld spl spc spg spa W))
def Zep(K:YC)(c:CA)(ld:YF)(spl spc spg spa:Sp)(W:WX):TS:=(Xk (Xe (tOp (ZbB K) (YU 4) (tC (.str "set")))) (ZaX K c ld spl spc spg spa W) (Za_ K c ld spl spc spg spa W))
theorem Zeq{K:YC}{c:CA}{ld:YF}{spl spc spg spa:Sp}{W:WX}{D:Ends}{σ:L2.St}{H:Hp}(h:(Xb (Xp (L2H.tMethH c.CI "load" spl (WE W) (YU 0) (YV (tOp (rIx K) (YU 3) (tC (.int 1))) Y1)))
 (Xp (L2H.tMethH c.CI "bind_loaded" (ZaR K c) (WE W) (YU 0) (YV (YU 1) (YV (YU 3) Y1))))) D σ H):Zeo K c ld spl spc spg spa W D σ H:=h
theorem Zer{K:YC}{c:CA}{ld:YF}{spl spc spg spa:Sp}{W:WX}{D:Ends}{σ:L2.St}{H:Hp}(h:(Xp (L2H.tMethH c.CI "bind" (Zao K c) (WE W) (YU 0) (YV (YU 1) (YV (tOp (rIx K) (YU 3) (tC (.int 1))) (YV (L2H.tMethH c.CI "value" (Zs K c 10) (WE W) (YU 0) (YV (YU 1) (YV (tOp (rIx K) (YU 3) (tC (.int 2))) Y1))) Y1))))) D σ H):ZaX K c ld spl spc spg spa W D σ H:=h
theorem Zes{K:YC}{c:CA}{ld:YF}{spl spc spg spa:Sp}{W:WX}{D:Ends}{σ:L2.St}{H:Hp}(h:(Xb (Xp (L2H.tMethH c.CI "read" (Zx K c) (WE W) (YU 0) (YV (YU 1) (YV (tOp (rIx K) (YU 3) (tC (.int 1))) (YV (tC (.str "unbound")) Y1)))))
 (ZpW (Xi K (Xi K (YU 0) "world") "bindings") (ZgL (YV (YU 1) (YV (tOp (rIx K) (YU 3) (tC (.int 1))) Y1))))) D σ H):ZaY K c ld spl spc spg spa W D σ H:=h
theorem Zet{K:YC}{c:CA}{ld:YF}{spl spc spg spa:Sp}{W:WX}{D:Ends}{σ:L2.St}{H:Hp}(h:(Xp (tBM K "list" rAppend (Xi K (Xi K (YU 0) "world") "lines") (YV (L2H.tMethH c.CI "value" (Zs K c 10) (WE W) (YU 0) (YV (YU 1) (YV (tOp (rIx K) (YU 3) (tC (.int 1))) Y1))) Y1))) D σ H):ZaZ K c ld spl spc spg spa W D σ H:=h
theorem Zeu{K:YC}{c:CA}{ld:YF}{spl spc spg spa:Sp}{W:WX}{D:Ends}{σ:L2.St}{H:Hp}(h:(Xp (L2H.tMethH c.CI "bind" (Zao K c) (WE W) (YU 0) (YV (YU 1) (YV (tOp (rIx K) (YU 3) (tC (.int 1))) (YV (Zf K (YV (tC (.str "function")) (YV (YU 1) (YV (YU 2) Y1)))) Y1))))) D σ H):Za0 K c ld spl spc spg spa W D σ H:=h
theorem Zev{K:YC}{c:CA}{ld:YF}{spl spc spg spa:Sp}{W:WX}{D:Ends}{σ:L2.St}{H:Hp}(h:(Xp (L2H.tMethH c.CI "call" spc (WE W) (YU 0) (YV (L2H.tMethH c.CI "value" (Zs K c 10) (WE W) (YU 0) (YV (YU 1) (YV (tOp (rIx K) (YU 3) (tC (.int 1))) Y1))) Y1))) D σ H):Za1 K c ld spl spc spg spa W D σ H:=h
theorem Zew{K:YC}{c:CA}{ld:YF}{spl spc spg spa:Sp}{W:WX}{D:Ends}{σ:L2.St}{H:Hp}(h:(Xb (Xm (L2H.tMethH c.CI "choice" (ZbZ K c) (WE W) (YU 0) (YV (L2H.tMethH c.CI "value" (Zs K c 10) (WE W) (YU 0) (YV (YU 1) (YV (tOp (rIx K) (YU 3) (tC (.int 1))) Y1))) Y1)) (Y6 5))
 (Xp (L2H.tMethH c.CI "go" spg (WE W) (YU 0) (YV (YU 1) (YV (tOp (rAdd K) (YU 2) (Zf K (YV (YU 5) Y1))) (YV (tOp (rIx K) (YU 3) (tOp (rAdd K) (tC (.int 2)) (YU 5))) Y1)))))) D σ H):Za2 K c ld spl spc spg spa W D σ H:=h
theorem Zex{K:YC}{c:CA}{ld:YF}{spl spc spg spa:Sp}{W:WX}{D:Ends}{σ:L2.St}{H:Hp}(h:(Xp (L2H.tMethH c.CI "attempt" spa (WE W) (YU 0) (YV (YU 1) (YV (YU 2) (YV (YU 3) Y1))))) D σ H):Za3 K c ld spl spc spg spa W D σ H:=h
theorem Zey{K:YC}{c:CA}{ld:YF}{spl spc spg spa:Sp}{W:WX}{D:Ends}{σ:L2.St}{H:Hp}(h:(Xp (L2H.tMethH c.CI "refuse" (ZU K c) (WE W) (YU 0) (YV (tC (.str "raised")) Y1))) D σ H):Za4 K c ld spl spc spg spa W D σ H:=h
theorem Zez{K:YC}{c:CA}{ld:YF}{spl spc spg spa:Sp}{W:WX}{D:Ends}{σ:L2.St}{H:Hp}(h:(Xk (Xe (tOp (ZbB K) (YU 4) (tC (.str "try")))) (Za3 K c ld spl spc spg spa W) (Za4 K c ld spl spc spg spa W)) D σ H):Za5 K c ld spl spc spg spa W D σ H:=h
theorem ZeA{K:YC}{c:CA}{ld:YF}{spl spc spg spa:Sp}{W:WX}{D:Ends}{σ:L2.St}{H:Hp}(h:(Xk (Xe (tOp (ZbB K) (YU 4) (tC (.str "if")))) (Za2 K c ld spl spc spg spa W) (Za5 K c ld spl spc spg spa W)) D σ H):Za6 K c ld spl spc spg spa W D σ H:=h
theorem ZeB{K:YC}{c:CA}{ld:YF}{spl spc spg spa:Sp}{W:WX}{D:Ends}{σ:L2.St}{H:Hp}(h:(Xk (Xe (tOp (ZbB K) (YU 4) (tC (.str "call")))) (Za1 K c ld spl spc spg spa W) (Za6 K c ld spl spc spg spa W)) D σ H):Za7 K c ld spl spc spg spa W D σ H:=h
theorem ZeC{K:YC}{c:CA}{ld:YF}{spl spc spg spa:Sp}{W:WX}{D:Ends}{σ:L2.St}{H:Hp}(h:(Xk (Xe (tOp (ZbB K) (YU 4) (tC (.str "def")))) (Za0 K c ld spl spc spg spa W) (Za7 K c ld spl spc spg spa W)) D σ H):Za8 K c ld spl spc spg spa W D σ H:=h
theorem ZeD{K:YC}{c:CA}{ld:YF}{spl spc spg spa:Sp}{W:WX}{D:Ends}{σ:L2.St}{H:Hp}(h:(Xk (Xe (tOp (ZbB K) (YU 4) (tC (.str "show")))) (ZaZ K c ld spl spc spg spa W) (Za8 K c ld spl spc spg spa W)) D σ H):Za9 K c ld spl spc spg spa W D σ H:=h
theorem ZeE{K:YC}{c:CA}{ld:YF}{spl spc spg spa:Sp}{W:WX}{D:Ends}{σ:L2.St}{H:Hp}(h:(Xk (Xe (tOp (ZbB K) (YU 4) (tC (.str "del")))) (ZaY K c ld spl spc spg spa W) (Za9 K c ld spl spc spg spa W)) D σ H):Za_ K c ld spl spc spg spa W D σ H:=h
theorem ZeF{K:YC}{c:CA}{ld:YF}{spl spc spg spa:Sp}{W:WX}{D:Ends}{σ:L2.St}{H:Hp}(h:(Xk (Xe (tOp (ZbB K) (YU 4) (tC (.str "set")))) (ZaX K c ld spl spc spg spa W) (Za_ K c ld spl spc spg spa W)) D σ H):Zep K c ld spl spc spg spa W D σ H:=h
local macro_rules | `(tactic| row_readAll cu) => `(tactic| first | with_reducible refine Zeq ?_ | with_reducible refine Zer ?_ | with_reducible refine Zes ?_ | with_reducible refine Zet ?_ | with_reducible refine Zeu ?_ | with_reducible refine Zev ?_ | with_reducible refine Zew ?_ | with_reducible refine Zex ?_ | with_reducible refine Zey ?_ | with_reducible refine Zez ?_ | with_reducible refine ZeA ?_ | with_reducible refine ZeB ?_ | with_reducible refine ZeC ?_ | with_reducible refine ZeD ?_ | with_reducible refine ZeE ?_ | with_reducible refine ZeF ?_)
end M
namespace M
open PySem L2 L2H SlX
end M
namespace M
open PySem L2
theorem ZiS{P:Prg}(nd:(P.map (·.1)).Nodup)(n:Str):valA (Zas P) n=valA P n:=by
 cases e:valA P n with
 | none =>
   refine ZcJ.mpr ?_
   rw[Zch,ZcK]
   exact ZcJ.mp e
 | some b =>
   refine Zc0 (by rw[Zch]; exact ZeU nd) ?_
   unfold Zas
   refine Yq.mpr ⟨n,?_,by rw[e]; rfl⟩
   rw[ZcK]
   exact Yv (f:=(·.1)) (ZbS e)
theorem ZdJ.good{ms ns:List Str}{P:Prg}(h:ZdJ ms ns P):ZmD ms ns (valA (Zas P)):=by
 have nd:(P.map (·.1)).Nodup:=by rw[h.keys]; exact h.ndm
 have l1:=h.lm
 have l2:=h.ln
 have l3:ms.length * ns.length ≤ 4 * 3:=Nat.mul_le_mul l1 l2
 refine⟨fun m b e=>?_,h.okm,h.okn,by omega,by omega⟩
 rw[ZiS nd]at e
 have mm:=ZbS e
 have d:=h.blk _ mm
 exact⟨by rw[← h.keys]; exact Yv (f:=(·.1)) mm,d.wf,⟨_,d.over⟩,Nat.le_trans d.dep (by decide),Nat.le_trans d.cnt (by decide)⟩
theorem ZdJ.has{ms ns:List Str}{P:Prg}(h:ZdJ ms ns P){s:Str}(m:s∈ms):∃ b,valA (Zas P) s=some b:=by
 have nd:(P.map (·.1)).Nodup:=by rw[h.keys]; exact h.ndm
 rw[ZiS nd]
 cases e:valA P s with
 | none=>exact absurd (by rw[h.keys]; exact m) (ZcJ.mp e)
 | some b=>exact⟨b,rfl⟩
section
variable {K:YC} {H:Hp} {Q:VK}
theorem ZmH{a:YF}{xs:List V}{lo hi:Option Int}(h:SqT K H a xs)(q:∀ p H',Zb [] H H'→SqT K H' p (cutV xs lo hi)→Q (.ref p) H'):rSlA K (.ref a) lo hi H Q :=
 ⟨a,xs,rfl,h,fun e=>q a H (Zb.refl _ _) (by unfold cutV; rw[e.1,e.2]; simpa using h),fun _ p f=>q p _ (Zb.new f) (SqT.of Y_)⟩
theorem ImAll.drop:∀ {vs:List V} {ds:List PyData} (n:Nat),ImAll K H vs ds→ImAll K H (vs.drop n) (ds.drop n)
 | _,_,0,h=>h
 | _,_,_ + 1,.nil=>.nil
 | _,_,n + 1,.cons _ t=>ImAll.drop n t
theorem ImAll.take:∀ {vs:List V} {ds:List PyData} (n:Nat),ImAll K H vs ds→ImAll K H (vs.take n) (ds.take n)
 | _,_,0,_=>.nil
 | _,_,_ + 1,.nil=>.nil
 | _,_,n + 1,.cons h t=>.cons h (ImAll.take n t)
end
end M
namespace M
open PySem L2 L2H SlX
theorem Zcc{C:YF}{sp:Sp}{E:XK}{ta:TE}{σ:L2.St}{H:Hp}{Q:VK}:tPropSl C sp E ta σ H Q=ta σ H fun x H1=>∃ a dx vs,x = .ref a∧Slt H1 a C dx vs∧sp [.ref a] H1 Q E:=rfl
theorem Zcd{C:YF}{sp:Sp}{E:XK}{ta:TE}{t:TA}{σ:L2.St}{H:Hp}{Q:VK}:tMethSl C sp E ta t σ H Q=ta σ H fun x H1=>∃ a dx vs,x = .ref a∧Slt H1 a C dx vs∧t σ H1 fun ws H2=>sp (x :: ws) H2 Q E:=rfl
theorem Zc7{n m:Nat}{sp:Sp}{gV:List V→List V→List V}{E:XK}{t tk:TA}{σ:L2.St}{H:Hp}{Q:VK}:tCallN n m sp gV E t tk σ H Q=t σ H fun vs H1=>tk σ H1 fun zs H2=>vs.length=n∧zs.length=m∧sp (gV vs zs) H2 Q E:=rfl
theorem Zh4{r:V→Option Int→Option Int→Hp→VK→Prop}{te:TE}{tl th:TO}{σ:L2.St}{H:Hp}{Q:VK}:L2.tSl r te tl th σ H Q=te σ H fun x H1=>tl σ H1 fun l H2=>th σ H2 fun u H3=>r x l u H3 Q:=rfl
theorem Zce{σ:L2.St}{H:Hp}{R:Option Int→Hp→Prop}:tNoPart σ H R=R none H:=rfl
theorem Zfx{t:TE}{σ:L2.St}{H:Hp}{R:Option Int→Hp→Prop}:tPart t σ H R=t σ H fun x H1=>∃ i,x = .int i∧R (some i) H1:=rfl
theorem Zc8{i:Int}{P:Int→Prop}:(∃ j,V.int i = .int j∧P j)=P i:=propext ⟨fun⟨j,e,h⟩=>by cases e; exact h,fun h=>⟨i,rfl,h⟩⟩
section
variable {K:YC} {C:YF}
end
end M
namespace M
open PySem PySem.Spec PyProof.Rows L2 L2H SlX
end M
namespace M
open PySem PySem.Spec PyProof.Rows L2 L2H SlX GenW
def Zoz(m:Str)(r:Pth×Stm):PyData:=.tuple [.str m,Zf5 r.1,r.2.d]
def ZmI(x:Str×List Stm):List PyData:=(walkL [] 0 x.2).map (Zoz x.1)
def ZgO(Pg:Prg):List PyData:=Pg.flatMap ZmI
theorem Zhv{x:Str×List Stm}{r:Prg}:ZgO (x :: r)=ZmI x++ZgO r:=rfl
structure ZcF where
 tg1:Expr
 iter1:Expr
 tg2:Expr
 iter2:Expr
 ye:Expr
 yp:Pos
 p1:Pos
 p2:Pos
 p3:Pos
def ZcF.b2(c:ZcF):List YK:=[.Expr (.Yield (some c.ye) c.yp) c.p3]
def ZcF.b1(c:ZcF):List YK:=[.For c.tg2 c.iter2 c.b2 [] c.p2]
def ZcF.b0(c:ZcF):List YK:=[.For c.tg1 c.iter1 c.b1 [] c.p1]
def te2(K:YC):TE:=Xo (Zq K 10) [] E0 (YV (tOp rIxD (tSl K (YU 0) "own_blocks") (YU 1)) (YV (Zf K Y1) Y1))
structure ZmJ(X:Cx)(c:ZcF):Prop where
 i1:∀ s H,PI (rb X s H) c.tg1 c.iter1 (iList X.K (tSl X.K (YU 0) "own_names"))
 g1:∀ s H,PG (rb X s H) c.tg1 (Y6 1)
 i2:∀ s H,PI (rb X s H) c.tg2 c.iter2 (iList X.K (te2 X.K))
 g2:∀ s H,PG (rb X s H) c.tg2 (gTup X.K 2 (gCons (Y6 2) (gCons (Y6 3) gNil)))
 ye:∀ s H,PE (rb X s H) c.ye (Zf X.K (YV (YU 1) (YV (YU 2) (YV (YU 3) Y1))))
 f1:∀ x,foldedSetIterable c.iter1 X.env x=pure x
 f2:∀ x,foldedSetIterable c.iter2 X.env x=pure x
 co:X.env.scope.isCoroutine=false
 ia:interactive X.env=false
def Zsp:Flow→Sem PySem.Fin:=fun f=>.pure (.done (.ret (match f with | .ret v=>v | _=>.none)))
def Zq8(env:Env):YI→Sem PySem.Fin:=fun e=>(leaving env e).wrap (fun _=>.raise e) .raise id id
def ZoA(env:Env)(K:Flow→Sem PySem.Fin)(J:YI→Sem PySem.Fin):Flow→Sem PySem.Fin:=fun f=>match f with | .next=>(execs [] env).wrap K J id id | f=>K f
def ZmK(c:Code):Flow→Sem PySem.Fin:=fun f=>match f with
 | .next | .cont=>.pure (.again c)
 | .brk=>.pure (.done .next)
 | .ret v=>.pure (.done (.ret v))
def ZlO(env:Env):YI→Sem PySem.Fin:=fun e=>(do noteFrame e env; theTreesLotGoes e:Sem Unit).wrap (fun _=>.raise e) .raise id id
def Zs7(env:Env)(K:Flow→Sem PySem.Fin)(J:YI→Sem PySem.Fin)(c:Code)(p:Pos):Frame :=
 .ret (fun r=>((match r with | .ok f=>(.pure f:Sem Flow) | .error e=>.raise e).onRaise (cameBack env)).wrap K J id id) none (id false) (id []) c p []
section
variable (X:Cx) (c:ZcF)
abbrev ZcF.c1(it:YF):Code:=.forLoop c.tg1 (.ref it) c.b1 [] X.env
abbrev ZcF.c2(it:YF):Code:=.forLoop c.tg2 (.ref it) c.b2 [] X.env
def ZcF.fs1(p:Pos):List Frame:=[Zs7 X.env (ZoA X.env Zsp (Zq8 X.env)) (Zq8 X.env) (.func c.b0 X.env) p]
def ZcF.fs2(it1:YF)(p q:Pos):List Frame:=Zs7 X.env (ZoA X.env (ZmK (c.c1 X it1)) (ZlO X.env)) (ZlO X.env) (c.c1 X it1) q :: c.fs1 X p
end
def Zs8(P:YG)(w:YH)(K:YC)(mg:Str→Option YI)(base:Heap)(A:Around)(outer:List Env)(n0:Nat)(H0:Hp)(F0:List YF)(a:YF)(g:Nat)(s:YJ)(H:Hp):List PyData→End→YJ→Prop
 | [],e,s'=>e = .ret (.ok (.ret .none))∧∃ H',Zb [] H H'∧Bk P w n0 outer s H s' H'
 | z :: zs,e,s'=>∃ v b l k c p fs x H' pins' N',e = .susp v b l k c p fs∧RelV x v∧Im K H' x z∧Zb [] H H' ∧
     Bk P w n0 outer s H s' H'∧ZfY pins' s' H'∧Zp_ a g n0 pins'∧N' H'∧Zjk H0 F0 N'∧Zq4 P w K mg base A outer n0 H0 F0 a g zs pins' N' e.genState
theorem ZlP{P:YG}{w:YH}{K:YC}{mg:Str→Option YI}{base:Heap}{A:Around}{outer:List Env}{n0:Nat}{H0:Hp}{F0:List YF}{a:YF}{g:Nat}{zs:List PyData}{pins:List (YF×Obj)}{N:Hp→Prop}{gs:GenState}
  (h:∀ s H,Env0 P w K mg base A outer s H→ZfY pins s H→N H→g < s.gens.size→GoX (model P w) A.in1 (s.setGen g .running) (Zs8 P w K mg base A outer n0 H0 F0 a g s H zs) gs):Zq4 P w K mg base A outer n0 H0 F0 a g zs pins N gs:=by
 cases zs with
 | nil=>exact h
 | cons z zs=>exact h
section
variable {K:YC} {H:Hp} {C pr dx nl d p1 p2:YF} {Pg:Prg} {m:Str} {b:List Stm} {v2 v3:Option V}
theorem ZmL(T:Zjt K C p1 p2)(x:Zbs K H C pr Pg [pr,dx,nl,d])(e:valA Pg m=some b)(hd:depL b ≤ 4)(hn:(walkL [] 0 b).length ≤ 100000) :
  iList K (te2 K) [some (.ref pr),some (.str m),v2,v3] H fun J H'=>Zb [] H H'∧∃ l2 ws,J=Itl K l2∧H l2=none∧H' l2=some (.lst ws)∧ImAll K H' ws ((walkL [] 0 b).map Zom):=by
 obtain⟨dx',nl',d',ef,h1,h2,h3,mm,h4,r4⟩:=x.ex
 cases ef
 rcases r4.val Zdm m with⟨e1,e2⟩ | ⟨v,b',e1,e2,e3⟩
 ·rw[e]at e2; cases e2
 ·rw[e]at e2
  cases e2
  show te2 K _ _ _
  unfold te2
  row_readAll go
  refine⟨pr,C,dx,p2,_,_,_,rfl,h1,T.c,T.s2,rfl,?_⟩
  refine Zn2 h4 e1 ?_
  row_readAll go
  refine Zj (by simp) fun q1 H1 f1 k1 s1=>?_
  have ip:Im K H1 (.ref q1) (Zf5 []):=.tup s1 .nil
  refine⟨v,q1,b,[],rfl,e3.mono k1,ip,by omega,hn,by simp,fun l2 ws H2 f2 k2 g2 i2=>?_⟩
  exact⟨l2,rfl,⟨ws,SqL.of g2⟩,k1.trans k2,l2,ws,rfl,k1.free f2,g2,i2⟩
theorem ZmM(T:Zjt K C p1 p2)(x:Zbs K H C pr Pg [pr,dx,nl,d]){v1:Option V}:iList K (tSl K (YU 0) "own_names") [some (.ref pr),v1,v2,v3] H fun J H'=>Zb [] H H'∧J=Itl K nl∧H'=H:=by
 obtain⟨dx',nl',d',ef,h1,h2,h3,_⟩:=x.ex
 cases ef
 show tSl K (YU 0) "own_names" _ _ _
 row_readAll go
 refine⟨pr,C,dx,p1,_,_,_,rfl,h1,T.c,T.s1,rfl,?_⟩
 exact⟨nl,rfl,⟨_,SqL.of h3⟩,Zb.refl _ _,rfl,trivial⟩
end
structure Zju(X:Cx)(c:ZcF)(A:Around)(C p1 p2 pr dx nl d a g:Nat)(go:Obj)(H0:Hp)(Pg:Prg):Prop where
 S:Sta X
 D:ZmJ X c
 over:X.A=A.in1.deeper X.env
 T:Zjt X.K C p1 p2
 nd:(Pg.map (·.1)).Nodup
 few:∀ x∈Pg,depL x.2 ≤ 4∧(walkL [] 0 x.2).length ≤ 100000
 go:Zoe g go
 up:X.env.locals < a
 len:X.N.length=4
structure ZoV(X:Cx)(c:ZcF)(C pr dx nl d a:Nat)(go:Obj)(H0:Hp)(Pg:Prg)(it1:YF)(fp1:List YF)(tn1:Nat→Heap→Prop)(j:Nat)(s0:YJ)(Hs:Hp)(s:YJ)(H:Hp)(σ:L2.St):Prop where
 le:ZkC X s0 Hs s H
 k0:Zb [] Hs H
 I:SI X σ H s
 st:∃ v1 v2 v3,σ = [some (.ref pr),v1,v2,v3]
 pa:Zbs X.K H C pr Pg [pr,dx,nl,d]
 T1:Turn X.prog X.w X.K c.tg1 (Itl X.K nl) fp1 it1 tn1
 t1:tn1 j s.heap
 o1:Own X fp1 H
 na:a∉fp1
 ga:s.heap.get? a=some go∧H a=none
 dom:∀ b,H0 b≠none→H b≠none
structure InF(X:Cx)(c:ZcF)(C pr dx nl d a:Nat)(go:Obj)(H0:Hp)(Pg:Prg)(it1:YF)(fp1:List YF)(tn1:Nat→Heap→Prop)(j:Nat)(it2:YF)(fp2:List YF)(tn2:Nat→Heap→Prop)(l2:YF)(ws:List V)(m:Str)(b:List Stm)(i:Nat)(s0:YJ)(Hs:Hp)(s:YJ)(H:Hp)(σ:L2.St):Prop where
 o:ZoV X c C pr dx nl d a go H0 Pg it1 fp1 tn1 (j + 1) s0 Hs s H σ
 mb:Pg[j]? = some (m,b)
 st:∃ v2 v3,σ = [some (.ref pr),some (.str m),v2,v3]
 T2:Turn X.prog X.w X.K c.tg2 (Itl X.K l2) fp2 it2 tn2
 t2:tn2 i s.heap
 o2:Own X fp2 H
 na:a∉fp2
 d12:∀ x∈fp1,x∉fp2
 g2:H l2=some (.lst ws)
 i2:ImAll X.K H ws ((walkL [] 0 b).map Zom)
 n2:H0 l2=none
section
variable {X:Cx} {c:ZcF} {A:Around} {C p1 p2 pr dx nl d a g:Nat} {go:Obj} {H0 Hs H H':Hp} {Pg:Prg} {it1 it2 l2:YF} {fp1 fp2 ch:List YF} {tn1 tn2:Nat→Heap→Prop} {i j:Nat} {s0 s s':YJ} {σ σ':L2.St} {ws:List V} {m:Str} {b:List Stm}
theorem Zoe.nc(h:Zoe g go):ZcL go:=fun v e=>by
 obtain⟨_,⟨nm,qn,h2⟩,_⟩:=h
 rw[h2]at e
 cases e
theorem Leg.ga(E:Zju X c A C p1 p2 pr dx nl d a g go H0 Pg)(l:Leg X ch s H s' H')(na:a∉ch)(h:s.heap.get? a=some go∧H a=none):s'.heap.get? a=some go∧H' a=none:=by
 have nf:a∉frs X.outer:=fun z=>absurd (E.S.low a z) (Nat.not_lt.mpr (Nat.le_of_lt E.up))
 exact⟨l.keep a go h.1 h.2 nf (Nat.ne_of_gt E.up) na (.inr E.go.nc),l.free a go h.1 h.2 (Nat.ne_of_gt E.up) na (.inr E.go.nc)⟩
theorem ZoV.step(E:Zju X c A C p1 p2 pr dx nl d a g go H0 Pg)(x:ZoV X c C pr dx nl d a go H0 Pg it1 fp1 tn1 j s0 Hs s H σ)(l:Leg X ch s H s' H')(hc:∀ y∈ch,X.env.locals < y)(dj:∀ y∈fp1,y∉ch)(na:a∉ch)(k:Zb [] H H')(I:SI X σ' H' s')(st:∃ v1 v2 v3,σ'=[some (.ref pr),v1,v2,v3]) :
  ZoV X c C pr dx nl d a go H0 Pg it1 fp1 tn1 j s0 Hs s' H' σ':=by
 obtain⟨h1,h2⟩:=Leg.tn E.S x.T1 x.o1 dj l x.t1
 exact⟨x.le.trans E.S (l.toE hc),x.k0.trans k,I,st,x.pa.k0 k,x.T1,h1,h2,x.na,l.ga E na x.ga,fun y hy=>ZgC k y (x.dom y hy)⟩
theorem ZmN{fp:List YF}{h:Heap}{y:YF}{o:Obj}(hp:ZfY (pinsAt fp h) s H)(hy:y∈fp)(e:h.get? y=some o):s.heap.get? y=some o∧H y=none:=hp (y,o) (mem_pinsAt hy e)
theorem ZiT(E:Zju X c A C p1 p2 pr dx nl d a g go H0 Pg)(p q:Pos):A.in1.over (c.c1 X it1) (c.fs1 X p)=X.A∧A.in1.over (c.c2 X it2) (c.fs2 X it1 p q)=X.A:=by
 have e0:A.in1.over (.func c.b0 X.env) []=X.A:=over_func.trans E.over.symm
 have e1:A.in1.over (c.c1 X it1) (c.fs1 X p)=X.A:=(over_loop rfl rfl).trans e0
 exact⟨e1,(over_loop rfl rfl).trans e1⟩
theorem nxt{it2:YF}{F:End→YJ→Prop}{fs:List Frame}(h:SgX (model X.prog X.w) A.in1 (c.c2 X it2) ((model X.prog X.w).den (c.c2 X it2)) fs s F):SgX (model X.prog X.w) A.in1 (c.c2 X it2) (ZoA X.env (ZmK (c.c2 X it2)) (ZlO X.env) .next) fs s F:=by
 show SgX _ _ _ (.pure (.again (c.c2 X it2))) fs s F
 exact ZhK rfl h
theorem ZmO(h:Pg[j]? = some (m,b)):ZgO (Pg.drop j)=ZmI (m,b)++ZgO (Pg.drop (j + 1)):=by
 have hj:=(Yk.mp h)
 obtain⟨hl,e⟩:=hj
 rw[← List.getElem_cons_drop hl,e,Zhv]
theorem ZkC.setG(S:Sta X){y:GenState}:ZkC X s H (s.setGen g y) H :=
 ⟨[],by simp,rfl,fun _ _ e _ _ _ _ _=>e,fun b o e _ _=>⟨o.slots,e⟩,fun _ _ _ n _ _ _=>n,fun _ _ e=>e,fun _ _ _ e=>e,fun _ ps e=>⟨#[],by rw[e]; simp⟩,fun b o e _ _ d=>⟨o,e,d⟩⟩
abbrev Zs9(X:Cx)(A:Around)(H0:Hp)(F0:List YF)(a g:Nat)(s0:YJ)(Hs:Hp)(zs:List PyData):End→YJ→Prop:=Zs8 X.prog X.w X.K X.mg X.base A X.outer X.env.locals H0 F0 a g s0 Hs zs
def ZmP(X:Cx)(c:ZcF)(A:Around)(C pr dx nl d a g:Nat)(go:Obj)(H0:Hp)(Pg:Prg)(zs:List PyData)(r:Nat):Prop:=∀ (j:Nat) it1 fp1 tn1 s0 Hs s H σ p,Pg.length - j=r→zs=ZgO (Pg.drop j)→ZoV X c C pr dx nl d a go H0 Pg it1 fp1 tn1 j s0 Hs s H σ →
 SgX (model X.prog X.w) A.in1 (c.c1 X it1) ((model X.prog X.w).den (c.c1 X it1)) (c.fs1 X p) s (Zs9 X A H0 [pr,dx,nl,d] a g s0 Hs zs)
def Zq9(X:Cx)(c:ZcF)(A:Around)(C pr dx nl d a g:Nat)(go:Obj)(H0:Hp)(Pg:Prg)(zs:List PyData)(r:Nat):Prop:=∀ (j i:Nat) it1 fp1 tn1 it2 fp2 tn2 l2 ws m b s0 Hs s H σ p q,Pg.length - (j + 1)=r→zs=((walkL [] 0 b).drop i).map (Zoz m)++ZgO (Pg.drop (j + 1)) →
 InF X c C pr dx nl d a go H0 Pg it1 fp1 tn1 j it2 fp2 tn2 l2 ws m b i s0 Hs s H σ→SgX (model X.prog X.w) A.in1 (c.c2 X it2) ((model X.prog X.w).den (c.c2 X it2)) (c.fs2 X it1 p q) s (Zs9 X A H0 [pr,dx,nl,d] a g s0 Hs zs)
theorem Turn.nc{P:YG}{w:YH}{K:YC}{tg:Expr}{J:It}{fp:List YF}{it:YF}{tn:Nat→Heap→Prop}{h:Heap}{i:Nat}(T:Turn P w K tg J fp it tn)(t:tn i h){p:YF×Obj}(hp:p∈pinsAt fp h):p.1∈fp∧ZcL p.2:=by
 obtain⟨h1,h2⟩:=of_pinsAt hp
 obtain⟨o,e,nc⟩:=T.obj _ _ t p.1 h1
 rw[h2]at e
 cases e
 exact⟨h1,nc⟩
theorem ZoB(E:Zju X c A C p1 p2 pr dx nl d a g go H0 Pg){zs:List PyData}{r:Nat}(ih:∀ (zs':List PyData) r',zs'.length < zs.length→Zq9 X c A C pr dx nl d a g go H0 Pg zs' r')(out:ZmP X c A C pr dx nl d a g go H0 Pg zs r):Zq9 X c A C pr dx nl d a g go H0 Pg zs r:=by
 intro j i it1 fp1 tn1 it2 fp2 tn2 l2 ws m b s0 Hs s H σ p q hr ez x
 obtain⟨v2,v3,rfl⟩:=x.st
 have hov:=(ZiT E (it1:=it1) (it2:=it2) p q).2
 have lw:=x.i2.length
 rw[Yb]at lw
 have up2:∀ y∈fp2,X.env.locals < y:=fun y hy=>(x.o2.up y hy).1
 refine Zhr ?_
 rw[hov]
 by_cases hi:i < (walkL [] 0 b).length
 ·have hrow:(walkL [] 0 b)[i]? = some (walkL [] 0 b)[i]:=Yw hi
  generalize (walkL [] 0 b)[i]=row at hrow
  obtain⟨wv,hw⟩:∃ wv,ws[i]? = some wv:=⟨_,Yw (by omega)⟩
  obtain⟨dd,hd,iw⟩:=x.i2.get hw
  rw[Ym,hrow]at hd
  cases hd
  have go2:(Itl X.K l2).go i H:=⟨_,wv,SqL.of x.g2,hw⟩
  refine wpAny_mono (Zkc E.S x.o.I x.T2 x.o2 x.t2 go2 fun y H' yy=>by rw[yy.1]; exact Zb.refl _ _) (fun r1 s1 ⟨u,hr1,h1⟩=>?_) fun _ _ z=>z
  subst hr1
  refine wpAny_mono h1 (fun _ s2 ⟨y,H2,I2,lg,ry,yy,t2,o2⟩=>?_) fun _ _ z=>z
  obtain⟨rfl,yv⟩:=yy
  have ey:=yv _ (SqL.of x.g2)
  rw[hw]at ey
  cases ey
  obtain⟨cT,ys,rfl,sT,iT⟩:=iw.of_tup
  obtain⟨u1,r1,rfl,i1,iT⟩:=iT.of_cons
  obtain⟨u2,r2,rfl,i2,iT⟩:=iT.of_cons
  cases iT.of_nil
  have x2:=x.o.step E lg up2 x.d12 x.na (Zb.refl _ _) I2 ⟨_,_,_,rfl⟩
  have rd:gTup X.K 2 (gCons (Y6 2) (gCons (Y6 3) gNil)) (.ref cT) [some (.ref pr),some (.str m),v2,v3] H2 fun σ' H'=>Zb [] H2 H'∧H'=H2∧σ'=[some (.ref pr),some (.str m),some u1,some u2]:=by
   refine Zhu sT ?_
   exact⟨Zb.refl _ _,rfl,rfl⟩
  refine wpAny_mono (Znq E.S I2 (E.D.g2 _ _) ry rd) (fun _ s3 ⟨σ3,H3,I3,l3,k3,eH,eσ⟩=>?_) fun _ _ z=>z
  subst eH
  subst eσ
  have x3:=x2.step E l3 (by simp) (by simp) (by simp) (Zb.refl _ _) I3 ⟨_,_,_,rfl⟩
  obtain⟨t3,o3⟩:=Leg.tn E.S x.T2 o2 (by simp) l3 t2
  show SgX _ _ _ ((execs c.b2 X.env).wrap (ZmK (c.c2 X it2)) (ZlO X.env) id id) _ _ _
  rw[show execs c.b2 X.env=execs [.Expr (.Yield (some c.ye) c.yp) c.p3] X.env from rfl,execs_cons_wrap]
  refine ZhN rfl rfl rfl ?_ E.D.co E.D.ia
  rw[hov]
  have ry3:Zf X.K (YV (YU 1) (YV (YU 2) (YV (YU 3) Y1))) [some (.ref pr),some (.str m),some u1,some u2] H3 fun y H'=>Zb [] H3 H'∧Im X.K H' y (Zoz m row):=by
   row_readAll go
   refine Zj (by row_readAll ln) fun q1 H1 f1 k1 s1=>⟨k1,?_⟩
   exact .tup s1 (.cons (.str m) (.cons (i1.mono k1) (.cons (i2.mono k1) .nil)))
  refine wpAny_mono (Zqc E.S I3 (E.D.ye _ _) ry3) (fun v s4 ⟨y,H4,I4,l4,r4,k4,iy⟩=>?_) fun _ _ z=>z
  intro yb yl kk yp hkk
  have x4:=x3.step E l4 (by simp) (by simp) (by simp) k4 I4 ⟨_,_,_,rfl⟩
  obtain⟨t4,o4⟩:=Leg.tn E.S x.T2 o3 (by simp) l4 t3
  have g4:=k4.obj _ _ Ya x.g2
  have i4:=x.i2.mono k4
  have ezs:zs=Zoz m row :: (((walkL [] 0 b).drop (i + 1)).map (Zoz m)++ZgO (Pg.drop (j + 1))):=by
   rw[ez]
   have:(walkL [] 0 b).drop i=row :: (walkL [] 0 b).drop (i + 1):=by
    have e:=(Yk.mp hrow)
    obtain⟨hl,e⟩:=e
    rw[← List.getElem_cons_drop hl,e]
   rw[this]
   rfl
  rw[ezs]
  have ⟨mL,hns,hlook⟩:=I4.loc
  obtain⟨oL,es,ep,eoL,edL,_⟩:=id hns
  refine⟨v,yb,yl,kk,c.c2 X it2,yp,c.fs2 X it1 p q,y,H4,pinsAt (a :: X.env.locals :: (fp1++fp2)) s4.heap,fun Hn=>Zbs X.K Hn C pr Pg [pr,dx,nl,d]∧(∃ ws',Hn l2=some (.lst ws')∧ImAll X.K Hn ws' ((walkL [] 0 b).map Zom))∧∀ b,H0 b≠none→Hn b≠none,
   rfl,r4,iy,x4.k0,?_,?_,?_,⟨x4.pa,⟨ws,g4,i4⟩,x4.dom⟩,?_,ZlP fun sn Hn en pk hN lg=>?_⟩
  ·obtain⟨ch,hc,lg'⟩:=x4.le
   exact lg'.bk hc I4.bare I4.hok
  ·intro pp hp
   obtain⟨h1,h2⟩:=of_pinsAt hp
   refine⟨h2,?_⟩
   rcases Yn.mp h1 with e | h1
   ·rw[e]; exact x4.ga.2
   ·rcases Yn.mp h1 with e | h1
    ·rw[e]; exact I4.free
    ·rcases Yh.mp h1 with h1 | h1
     ·exact(x4.o1.up _ h1).2
     ·exact(o4.up _ h1).2
  ·refine⟨⟨go,mem_pinsAt Yg x4.ga.1,E.go⟩,fun pp hp=>?_⟩
   obtain⟨h1,h2⟩:=of_pinsAt hp
   rcases Yn.mp h1 with e | h1
   ·rw[e,x4.ga.1]at h2
    cases h2
    rw[e]
    exact⟨Nat.le_of_lt E.up,E.go.nc⟩
   ·rcases Yn.mp h1 with e | h1
    ·rw[e]at h2
     rw[show s4.heap.get? X.env.locals=some oL from eoL]at h2
     cases h2
     rw[e]
     exact⟨YQ _,fun v z=>by rw[edL]at z; cases z⟩
    ·rcases Yh.mp h1 with h1 | h1
     ·obtain⟨o',e',nc⟩:=x.o.T1.obj _ _ x4.t1 pp.1 h1
      rw[h2]at e'
      cases e'
      exact⟨Nat.le_of_lt (x4.o1.up _ h1).1,nc⟩
     ·obtain⟨o',e',nc⟩:=x.T2.obj _ _ t4 pp.1 h1
      rw[h2]at e'
      cases e'
      exact⟨Nat.le_of_lt (o4.up _ h1).1,nc⟩
  ·intro Ha Hb S ⟨q1,⟨ws',q2,q3⟩,q4⟩ k hS
   refine⟨q1.keep k fun y hy z=>(hS y z).1 hy,⟨ws',k.obj _ _ (fun z=>(hS l2 z).2 x.n2) q2,q3.mono k⟩,fun y hy=>?_⟩
   cases e:Ha y with
   | none=>exact(q4 y hy e).elim
   | some u =>
     obtain⟨u',e'⟩:=k.dom y u e
     rw[e']
     exact fun z=>(nomatch z)
  ·-- woken again
   obtain⟨q1,⟨ws',q2,q3⟩,q4⟩:=hN
   have at_:∀ {y:YF} {o:Obj},y∈a :: X.env.locals :: (fp1++fp2)→s4.heap.get? y=some o→sn.heap.get? y=some o∧Hn y=none:=fun {y o} hy e=>ZmN pk hy e
   have gL:=at_ (Yf _ Yg) eoL
   have tt1:tn1 (j + 1) sn.heap:=x.o.T1.keep _ _ _ x4.t1 fun y hy o e=>(at_ (Yf _ (Yf _ (Yo _ hy))) e).1
   have tt2:tn2 (i + 1) sn.heap:=x.T2.keep _ _ _ t4 fun y hy o e=>(at_ (Yf _ (Yf _ (Yp _ hy))) e).1
   have oo1:Own X fp1 Hn:=⟨fun y hy=>⟨(x4.o1.up y hy).1,by
    obtain⟨o',e',_⟩:=x.o.T1.obj _ _ x4.t1 y hy
    exact(at_ (Yf _ (Yf _ (Yo _ hy))) e').2⟩⟩
   have oo2:Own X fp2 Hn:=⟨fun y hy=>⟨(o4.up y hy).1,by
    obtain⟨o',e',_⟩:=x.T2.obj _ _ t4 y hy
    exact(at_ (Yf _ (Yf _ (Yp _ hy))) e').2⟩⟩
   have en':Env0 X.prog X.w X.K X.mg X.base A X.outer (sn.setGen g .running) Hn:=⟨en.frames,en.mod,en.bs,en.bsz,en.funs,en.frf,en.hok,allBare_setGen en.bare rfl⟩
   have loc':Zoj X [some (.ref pr),some (.str m),some u1,some u2] (sn.setGen g .running):=by
    refine⟨mL,⟨oL,es,ep,gL.1,edL,by assumption⟩,fun k nm vv e1 e2 e3=>?_⟩
    obtain⟨u',ru,lk⟩:=hlook k nm vv e1 e2 e3
    refine⟨u',ru,?_⟩
    rcases lk with lk | ⟨_,cc,e,_⟩
    ·exact .inl lk
    ·have e:X.env.cells.lookup nm=some cc:=e
     rw[E.S.nc]at e
     cases e
   have In:SI X [some (.ref pr),some (.str m),some u1,some u2] Hn (sn.setGen g .running):=Zsa E.S en' loc' gL.2 E.len.symm
   have fin:=ih (((walkL [] 0 b).drop (i + 1)).map (Zoz m)++ZgO (Pg.drop (j + 1))) r (by rw[ezs,Yd]; omega) j (i + 1) it1 fp1 tn1 it2 fp2 tn2 l2 ws' m b sn Hn (sn.setGen g .running) Hn _ p q hr rfl
    ⟨⟨ZkC.setG E.S,Zb.refl _ _,In,⟨_,_,_,rfl⟩,q1,x.o.T1,tt1,oo1,x.o.na,at_ Yg x4.ga.1,q4⟩,x.mb,⟨_,_,rfl⟩,x.T2,tt2,oo2,x.na,x.d12,q2,q3,x.n2⟩
   exact hkk _ _ (nxt fin)
 ·-- the rows are at their end
  have hs:(Itl X.K l2).stop i H:=⟨ws,SqL.of x.g2,by omega⟩
  refine wpAny_mono (Zkd E.S x.o.I x.T2 x.o2 x.t2 hs) (fun r1 s1 ⟨hr1,I1,lg⟩=>?_) fun _ _ z=>z
  subst hr1
  have x1:=x.o.step E lg up2 x.d12 x.na (Zb.refl _ _) I1 ⟨_,_,_,rfl⟩
  refine Zls (.ok .next) ?_
  show SgX _ _ (c.c1 X it1) (.pure (.again (c.c1 X it1))) _ s1 _
  refine ZhK rfl (out (j + 1) it1 fp1 tn1 s0 Hs s1 H _ p hr ?_ x1)
  rw[ez,List.drop_of_length_le (by omega)]
  rfl
theorem ZmQ(E:Zju X c A C p1 p2 pr dx nl d a g go H0 Pg){zs:List PyData}{r:Nat}(inn:∀ r',r' + 1=r→Zq9 X c A C pr dx nl d a g go H0 Pg zs r'):ZmP X c A C pr dx nl d a g go H0 Pg zs r:=by
 intro j it1 fp1 tn1 s0 Hs s H σ p hr ez x
 obtain⟨v1,v2,v3,rfl⟩:=x.st
 have hov:=(ZiT E (it1:=it1) (it2:=it1) p p).1
 obtain⟨dx',nl',d',ef,_,_,g3,_⟩:=x.pa.ex
 cases ef
 have up1:∀ y∈fp1,X.env.locals < y:=fun y hy=>(x.o1.up y hy).1
 refine Zhr ?_
 rw[hov]
 by_cases hj:j < Pg.length
 ·have hm:Pg[j]? = some Pg[j]:=Yw hj
  generalize Pg[j]=mb at hm
  obtain⟨m,b⟩:=mb
  have go1:(Itl X.K nl).go j H:=⟨_,.str m,SqL.of g3,by rw[Ym,Ym,hm]; rfl⟩
  refine wpAny_mono (Zkc E.S x.I x.T1 x.o1 x.t1 go1 fun y H' yy=>by rw[yy.1]; exact Zb.refl _ _) (fun r1 s1 ⟨u,hr1,h1⟩=>?_) fun _ _ z=>z
  subst hr1
  refine wpAny_mono h1 (fun _ s2 ⟨y,H2,I2,lg,ry,yy,t2,o2⟩=>?_) fun _ _ z=>z
  obtain⟨rfl,yv⟩:=yy
  have ey:=yv _ (SqL.of g3)
  rw[Ym,Ym,hm]at ey
  cases ey
  refine wpAny_mono (Znq E.S I2 (E.D.g1 _ _) ry (N:=fun σ' H'=>H'=H2∧σ'=[some (.ref pr),some (.str m),v2,v3]) ⟨Zb.refl _ _,rfl,rfl⟩) (fun _ s3 ⟨σ3,H3,I3,l3,k3,eH,eσ⟩=>?_) fun _ _ z=>z
  subst eH
  subst eσ
  have x3:ZoV X c C pr dx nl d a go H0 Pg it1 fp1 tn1 (j + 1) s0 Hs s3 H3 [some (.ref pr),some (.str m),v2,v3]:=by
   obtain⟨q1,q2⟩:=Leg.tn E.S x.T1 o2 (by simp) l3 t2
   exact⟨(x.le.trans E.S (lg.toE up1)).trans E.S l3.e0,x.k0,I3,⟨_,_,_,rfl⟩,x.pa,x.T1,q1,q2,x.na,l3.ga E (by simp) (lg.ga E x.na x.ga),x.dom⟩
  show SgX _ _ _ ((execs c.b1 X.env).wrap (ZmK (c.c1 X it1)) (ZlO X.env) id id) _ _ _
  rw[show execs c.b1 X.env=execs [.For c.tg2 c.iter2 c.b2 [] c.p2] X.env from rfl,execs_cons_wrap]
  refine Zno ?_ E.D.f2
  rw[hov]
  have hmem:(m,b)∈Pg:=Yj hm
  obtain⟨f1,f2⟩:=E.few _ hmem
  have rd:=ZmL (m:=m) (b:=b) (v2:=v2) (v3:=v3) E.T x3.pa (Zc0 E.nd hmem) f1 f2
  refine wpAny_mono (Znr E.S I3 (E.D.i2 _ _) rd) (fun v s4 h4=>wpAny_mono h4 (fun itv s5 h5=>?_) fun _ _ z=>z) fun _ _ z=>z
  obtain⟨it2,fp2,tn2,J,H5,rfl,I5,l5,T2,t5,o5,dj,k5,l2,ws,rfl,fl2,g5,i5⟩:=h5
  intro q
  have nofp:∀ {y:YF} {o:Obj},s3.heap.get? y=some o→X.env.locals < y→H3 y=none→ZcL o→y∉fp2:=fun {y o} e1 e2 e3 e4=>dj y o e1 e2 e3 e4
  have d12:∀ y∈fp1,y∉fp2:=fun y hy=>by
   obtain⟨o',e',nc⟩:=x.T1.obj _ _ x3.t1 y hy
   exact nofp e' (x3.o1.up y hy).1 (x3.o1.up y hy).2 nc
  have x5:=x3.step E l5 (by simp) (by simp) (by simp) k5 I5 ⟨_,_,_,rfl⟩
  refine inn (Pg.length - (j + 1)) (by omega) j 0 it1 fp1 tn1 it2 fp2 tn2 l2 ws m b s0 Hs s5 H5 _ p q rfl ?_ ⟨x5,hm,⟨_,_,rfl⟩,T2,t5,o5,nofp x3.ga.1 E.up x3.ga.2 E.go.nc,d12,g5,i5,?_⟩
  ·rw[ez,ZmO hm,List.drop_zero]
   rfl
  ·cases e:H0 l2 with
   | none=>rfl
   | some u=>exact(x3.dom l2 (by rw[e]; exact fun z=>(nomatch z)) fl2).elim
 ·-- the modules are at their end
  have hs:(Itl X.K nl).stop j H:=⟨_,SqL.of g3,by rw[Yb,Yb]; omega⟩
  refine wpAny_mono (Zkd E.S x.I x.T1 x.o1 x.t1 hs) (fun r1 s1 ⟨hr1,I1,lg⟩=>?_) fun _ _ z=>z
  subst hr1
  refine Zls (.ok .next) ?_
  show SgX _ _ (.func c.b0 X.env) (leafOf (.ok (.ret .none))) [] s1 _
  refine Zp9 _ ?_
  rw[ez,List.drop_of_length_le (by omega)]
  have le1:=x.le.trans E.S (lg.toE up1)
  obtain⟨ch,hc,lg'⟩:=le1
  exact⟨rfl,H,x.k0,lg'.bk hc I1.bare I1.hok⟩
theorem ZlQ(E:Zju X c A C p1 p2 pr dx nl d a g go H0 Pg):∀ (n:Nat) (zs:List PyData),zs.length=n→∀ r,ZmP X c A C pr dx nl d a g go H0 Pg zs r∧Zq9 X c A C pr dx nl d a g go H0 Pg zs r:=by
 intro n
 induction n using Nat.strongRecOn with
 | ind n ihn =>
   intro zs hz r
   induction r using Nat.strongRecOn with
   | ind r ihr =>
     have o:ZmP X c A C pr dx nl d a g go H0 Pg zs r:=ZmQ E fun r' h=>(ihr r' (by omega)).2
     exact⟨o,ZoB E (fun zs' r' hl=>(ihn zs'.length (by omega) zs' rfl r').2) o⟩
end
theorem ZoC{P:YG}{w:YH}{A:Around}{F:End→YJ→Prop}{fs:List Frame}{s:YJ}{env:Env}{body:List YK}(h:SgX (model P w) A (.func body env) ((execs body env).wrap Zsp (Zq8 env) id id) fs s F) :
  SgX (model P w) A (.func body env) ((model P w).den (.func body env)) fs s F:=by
 show SgX _ A _ (.point [] fun _=>((execs body env).onRaise (leaving env)) >>= _) fs s F
 refine Zms ?_
 rw[Sem.onRaise_eq_wrap,Sem.bind_eq_wrap',Sem.wrap_wrap]
 rw[Sem.wrap_congr (execs body env) _ _ (K':=Zsp) (H':=Zq8 env) (fun f=>by cases f <;> rfl) (fun e=>by rw[Sem.bind_eq_wrap,Sem.wrap_wrap]; rfl)]
 exact h
def Znw(P:YG)(w:YH)(K:YC)(mg:Str→Option YI)(base:Heap)(N:List Str)(qual:Str)(scope:Scope)(f:YF)(cd:YI)(A:Around)(outer:List Env)(s:YJ)(H:Hp):Cx :=
 { cxOf CX0 P w K mg base N qual scope f cd A outer s H E0 with xe:=fun _ _=>False }
structure Zq_(N P:List Str)(sc:Scope):Prop where
 g:GScope N P sc
 nk:∀ x,sc.names.lookup x≠some .cell∧sc.names.lookup x≠some .free
 nc:∀ n,cellsFrom n sc.names []=[]
def ZoD(K:YC)(C:YF)(te:TE):TIG:=fun σ H R=>te σ H fun x H1=>∃ pr Pg pf,x = .ref pr∧Zbs K H1 C pr Pg pf∧(Pg.map (·.1)).Nodup∧(∀ x∈Pg,depL x.2 ≤ 4∧(walkL [] 0 x.2).length ≤ 100000)∧R (ZgO Pg) pf H1
theorem ZmR{P:YG}{w:YH}{K:YC}{mg:Str→Option YI}{base:Heap}{N ps:List Str}{qual:Str}{scope:Scope}{f:YF}{cd:YI}{A:Around}{outer:List Env}{s:YJ}{H:Hp}
  (S:Zq_ N ps scope) (hd:A.handled=none) (e0:Env0 P w K mg base A outer s H):Sta (Znw P w K mg base N qual scope f cd A outer s H) where
 mod:=e0.mod
 kind:=S.g.kind
 glob:=rfl
 blt:=rfl
 nc:=fun x=>by
  show(cellsFrom (s.heap.objs.size + 1) scope.names []).lookup x=none
  rw[S.nc]; rfl
 nk:=fun x h=>by
  have h:scope.names.lookup x=some .cell∨scope.names.lookup x=some .free:=h
  rcases h with h | h
  ·exact(S.nk x).1 h
  ·exact(S.nk x).2 h
 hd:=hd
 calm:=rfl
 frames:=Around.frames_deeper e0.frames
 stk:=rfl
 frm:=rfl
 bsz:=e0.bsz
 low:=fun b hb=>by
  obtain⟨_,o,e,_⟩:=e0.funs.mem hb
  exact Heap.lt_size e
 nx:=fun _ _ h=>h
theorem ZmS{X:Cx}{o:Expr}{te:TE}{C p1 p2 f:YF}{fd:YE}{params:Arguments}{scope:Scope}{qual:Str}{c:ZcF}{apos pos:Pos}{k:Nat}{pl:Sem Bool}(hx:∀ e s',¬ X.xe e s')(hc:X.calm=true)(he:PE X o te)(T:Zjt X.K C p1 p2)(hm:Meth X.K C "each_statement" f)
  (F:FunD X.K "each_statement" qual params c.b0 scope [] [] f fd) (S:Zq_ ["self", "name", "path", "statement"] ["self"] scope) (hb:Binds X.K fd ["self"] []) (hr:Room (k + 1) X.A)
  (D:∀ (cdv:YI) (A:Around) (outer:List Env) (s:YJ) (H:Hp),Room k (A.deeper (envOfC qual scope s.heap.objs.size f cdv))→ZmJ (Znw X.prog X.w X.K X.mg X.base ["self", "name", "path", "statement"] qual scope f cdv A outer s H) c)
  (ht:eval (.Call (.Attribute o "each_statement" apos) [] [] pos) X.env=(do
   let ov ← eval o X.env
   standAt apos.atName
   let (f,first) ← holding [ov] (getMethod ov "each_statement" pl)
   callWith pos f first (backTo pos (starEach [] X.env)) (backToKw pos (keywordEach [] X.env))):=by rfl) :
  PIG X (.Call (.Attribute o "each_statement" apos) [] [] pos) (ZoD X.K C te):=by
 refine⟨fun pins s σ H R I h=>?_⟩
 refine PySem.W.methodCall_KW (pl:=pl) (thn (he.run pins s σ H _ I h) fun u s1 ⟨x,H1,I1,rx,pr,Pg,pf,ex,xp,nd,few,hR⟩=>?_) ht
 subst ex
 obtain rfl:u=Value.ref pr:=rx
 obtain⟨dx,nl,d,rfl,hsl,_⟩:=xp.ex
 refine getmethsl_ok I1 hsl T.c hm ?_
 refine PySem.W.callWith_K0 (first:=[.ref pr]) I1.kIn hm.kp ?_
 obtain⟨oc,od,dV,kV,doc,pm,an,cdv,ct,osl,rfl,lk,hcd,_,_⟩:=F.ex
 have e0:Env0 X.prog X.w X.K X.mg X.base X.A X.stack s1 H1:=I1.env0
 have KX:X.K.In s1.heap:=I1.kIn
 have lim:s1.heap.NoLimit:=I1.nolimit
 have hhd:X.A.handled=none:=I1.ok.hd hc
 refine wpAny_call (codeAny_call_generator hr.depth (KX _ _ lk) rfl S.g.co S.g.gen rfl (PySem.W.codeRec_of KX hcd) (hb s1 [.ref pr] KX rfl _ _ _ _ ?_))
 have hkind:∀ y∈(["self"]:List Str).zip ([Value.ref pr]++[]),scope.names.lookup y.1=some .local∨(scope.names.lookup y.1=some .cell∧((cellsFrom (s1.heap.objs.size + 1) scope.names []).lookup y.1).isSome=true):=fun⟨n,v⟩ hy=>by
  rcases S.g.par n (List.of_mem_zip hy).1 with q | q
  ·exact .inl q
  ·exact .inr ⟨q,PySem.W.cellsFrom_some _ _ _ (.inl q)⟩
 refine wpAny_newFunctionEnv_cells S.g.kind hkind fun env hen s2 y=>?_
 subst hen
 have lim2:s2.heap.NoLimit:=lim.keeps y.toInCall.keep
 refine⟨lim2,?_⟩
 obtain⟨h2,tk,es2,hk2⟩:=y.done
 have lt2:s1.heap.objs.size < s2.heap.objs.size:=y.toInCall.ns.lt
 have rv:Vals [V.ref pr] [Value.ref pr]:=.cons rfl .nil
 have I2:=inv_startG (N:=["self", "name", "path", "statement"]) (ps:=["self"]) (A:=X.A.in1) (E:=fun _ _ _=>False) S.g hhd ⟨e0.frames,e0.mod,e0.bs,e0.bsz,e0.funs,e0.frf,e0.hok,e0.bare⟩ rfl rv y
 obtain⟨mL,hns,hlook⟩:=I2.loc
 obtain⟨oL,esL,epL,eoL,edL,rL⟩:=id hns
 have main:∀ (go:Obj) (nm qn:YI) (tk2:Nat),go.cls = .type "generator" → go.data = .fields #[.int s2.gens.size 0,nm,qn]→go.slots = #[]→(∀ h:Heap,(h.push go).get? h.objs.size=some go) →
   ∃ a g n0 zs F0 Hx pG,Value.ref s2.heap.objs.size = .ref a∧R zs F0 Hx∧Low X n0 pins∧Zof X n0 Hx F0 a g zs pins pG σ Hx { s2 with gens:=s2.gens.push (.fresh (.func c.b0 (envOfC qual scope s1.heap.objs.size f cdv))),toks:=tk2,heap:=s2.heap.push go }:=by
  intro go nm qn tk2 hgc hgd hgs hgp
  have hgo:Zoe s2.gens.size go:=⟨hgc,⟨nm,qn,hgd⟩,hgs⟩
  have low:Low X s1.heap.objs.size pins:=⟨I1.sz,I1.lt,fun x c' e=>by
   obtain⟨v,ob,e',_⟩:=I1.cell x c' e
   exact Heap.lt_size e',fun p hp=>Heap.lt_size (I1.pin p hp).1⟩
  have kp2:∀ b o,s1.heap.get? b=some o→s2.heap.get? b=some o:=y.toInCall.keep
  have kp3:∀ b o,s1.heap.get? b=some o→(s2.heap.push go).get? b=some o:=fun b o e=>YN _ (kp2 b o e)
  have I3:Inv X pins σ H1 { s1 with heap:=s2.heap.push go,toks:=tk2 }:=I1.kept (t':=tk2) kp3
  have bare3:AllBare (s2.gens.push (.fresh (.func c.b0 (envOfC qual scope s1.heap.objs.size f cdv)))):=AllBare.push (by rw[es2]; exact e0.bare) rfl
  have I4:Inv X pins σ H1 { s2 with gens:=s2.gens.push (.fresh (.func c.b0 (envOfC qual scope s1.heap.objs.size f cdv))),toks:=tk2,heap:=s2.heap.push go }:=by
   have:=Inv.gensOf I3 bare3
   rw[es2]at this ⊢
   exact this
  have freeG:H1 s2.heap.objs.size=none:=I1.hok.fresh (Nat.le_of_lt lt2)
  have freeL:H1 s1.heap.objs.size=none:=I1.hok.fresh (YQ _)
  have gat:(s2.heap.push go).get? s2.heap.objs.size=some go:=hgp _
  have Lat:(s2.heap.push go).get? s1.heap.objs.size=some oL:=YN _ eoL
  have pg:Zp_ s2.heap.objs.size s2.gens.size s1.heap.objs.size [(s2.heap.objs.size,go),(s1.heap.objs.size,oL)]:=by
   refine⟨⟨go,Yg,hgo⟩,fun p hp=>?_⟩
   rcases Yn.mp hp with rfl | hp
   ·exact⟨Nat.le_of_lt lt2,hgo.nc⟩
   ·rw[Ye.mp hp]
    exact⟨YQ _,fun v z=>by rw[edL]at z; cases z⟩
  refine⟨s2.heap.objs.size,s2.gens.size,s1.heap.objs.size,ZgO Pg,[pr,dx,nl,d],H1,[(s2.heap.objs.size,go),(s1.heap.objs.size,oL)],rfl,hR,low,Zlu low I4 pg (fun p hp=>?_),pg,.fresh (.func c.b0 (envOfC qual scope s1.heap.objs.size f cdv)),fun Hn=>Zbs X.K Hn C pr Pg [pr,dx,nl,d]∧∀ b,H1 b≠none→Hn b≠none,
   Array.getElem?_push_size ..,⟨xp,fun b h=>h⟩,?_,ZlP fun sn Hn en pk ⟨q1,q4⟩ lg=>?_⟩
  ·rcases Yn.mp hp with rfl | hp
   ·exact⟨gat,freeG⟩
   ·rw[Ye.mp hp]
    exact⟨Lat,freeL⟩
  ·intro Ha Hb S2 ⟨q1,q4⟩ k hS
   refine⟨q1.keep k fun y hy z=>(hS y z).1 hy,fun y hy=>?_⟩
   cases e:Ha y with
   | none=>exact(q4 y hy e).elim
   | some u =>
     obtain⟨u',e'⟩:=k.dom y u e
     rw[e']
     exact fun z=>(nomatch z)
  ·-- the first leg
   have gG:=pk (s2.heap.objs.size,go) Yg
   have gL:=pk (s1.heap.objs.size,oL) (Yf _ Yg)
   have St:Sta (Znw X.prog X.w X.K X.mg X.base ["self", "name", "path", "statement"] qual scope f cdv X.A.in1 X.stack s1 H1):=ZmR S hhd ⟨e0.frames,e0.mod,e0.bs,e0.bsz,e0.funs,e0.frf,e0.hok,e0.bare⟩
   have rm:Room k (X.A.in1.deeper (envOfC qual scope s1.heap.objs.size f cdv)):=⟨hhd,by have:=hr.dp; show X.A.depth + 1 + 3 * k + 5 < _; omega,by have:=hr.un; show X.A.units + 1 + 3 + 16 * k + 200 < _; omega⟩
   have E:Zju (Znw X.prog X.w X.K X.mg X.base ["self", "name", "path", "statement"] qual scope f cdv X.A.in1 X.stack s1 H1) c X.A C p1 p2 pr dx nl d s2.heap.objs.size s2.gens.size go H1 Pg :=
    ⟨St,D _ _ _ _ _ rm,rfl,T,nd,few,hgo,lt2,rfl⟩
   have en':Env0 X.prog X.w X.K X.mg X.base X.A X.stack (sn.setGen s2.gens.size .running) Hn:=⟨en.frames,en.mod,en.bs,en.bsz,en.funs,en.frf,en.hok,allBare_setGen en.bare rfl⟩
   have loc':Zoj (Znw X.prog X.w X.K X.mg X.base ["self", "name", "path", "statement"] qual scope f cdv X.A.in1 X.stack s1 H1) [some (.ref pr),none,none,none] (sn.setGen s2.gens.size .running):=by
    refine⟨mL,⟨oL,esL,epL,gL.1,edL,rL⟩,fun i nm vv e1 e2 e3=>?_⟩
    obtain⟨u',ru,lk'⟩:=hlook i nm vv e1 e2 e3
    refine⟨u',ru,?_⟩
    rcases lk' with lk' | ⟨_,cc,e,_⟩
    ·exact .inl lk'
    ·have e:(cellsFrom (s1.heap.objs.size + 1) scope.names []).lookup nm=some cc:=e
     rw[S.nc]at e
     cases e
   have In:SI (Znw X.prog X.w X.K X.mg X.base ["self", "name", "path", "statement"] qual scope f cdv X.A.in1 X.stack s1 H1) [some (.ref pr),none,none,none] Hn (sn.setGen s2.gens.size .running):=Zsa St en' loc' gL.2 rfl
   show SgX _ _ (.func c.b0 (envOfC qual scope s1.heap.objs.size f cdv)) _ [] _ _
   refine ZoC ?_
   rw[show execs c.b0 (envOfC qual scope s1.heap.objs.size f cdv)=execs [.For c.tg1 c.iter1 c.b1 [] c.p1] (envOfC qual scope s1.heap.objs.size f cdv)from rfl,execs_cons_wrap]
   refine Zno ?_ E.D.f1
   rw[show X.A.in1.over (.func c.b0 (envOfC qual scope s1.heap.objs.size f cdv)) []=X.A.in1.deeper (envOfC qual scope s1.heap.objs.size f cdv)from over_func]
   have rd:=ZmM (v1:=none) (v2:=none) (v3:=none) T q1
   refine wpAny_mono (Znr E.S In (E.D.i1 _ _) rd) (fun v s4 h4=>wpAny_mono h4 (fun itv s5 h5=>?_) fun _ _ z=>z) fun _ _ z=>z
   obtain⟨it1,fp1,tn1,J,H5,rfl,I5,l5,T1,t5,o5,dj,k5,rfl,rfl⟩:=h5
   intro q
   have nofp:s2.heap.objs.size∉fp1:=dj _ _ gG.1 lt2 gG.2 hgo.nc
   exact(ZlQ E _ _ rfl _).1 0 it1 fp1 tn1 sn H5 s5 H5 _ q rfl rfl
    ⟨(ZkC.setG St).trans St l5.e0,k5,I5,⟨_,_,_,rfl⟩,q1,T1,t5,o5,nofp,l5.ga E (by simp) gG,q4⟩
 exact main _ _ _ _ rfl rfl rfl fun h=>YO _ rfl
end M
namespace M
open PySem PySem.Spec PyProof.Rows L2 L2H SlX
local macro_rules | `(tactic| row_readAll n4) => `(tactic| simp only [Zcc, Zcd, Zc7, Zh4, Zce, Zfx, Zc8, Zg6])
local macro_rules | `(tactic| row_readAll gg) => `(tactic| ((try row_readAll go); (try row_readAll n4); (try row_readAll go); (try row_readAll n4); (try row_readAll go)))
def Ex.rds:Ex→List Ex
 | .int _=>[]
 | .nm n=>[.nm n]
 | .of n a=>[.of n a]
 | .bin _ l r=>l.rds++r.rds
theorem ZeZ:∀ e:Ex,e.rds.length ≤ 2 ^ e.dep
 | .int _=>by simp[Ex.rds]
 | .nm _=>by simp[Ex.rds,Ex.dep]
 | .of _ _=>by simp[Ex.rds,Ex.dep]
 | .bin _ l r=>by
   have h1:=ZeZ l
   have h2:=ZeZ r
   simp only[Ex.rds,Ex.dep,Yc]
   have e1 : 2 ^ l.dep ≤ 2 ^ max l.dep r.dep:=Nat.pow_le_pow_right (by decide) (Nat.le_max_left _ _)
   have e2 : 2 ^ r.dep ≤ 2 ^ max l.dep r.dep:=Nat.pow_le_pow_right (by decide) (Nat.le_max_right _ _)
   rw[Nat.pow_succ]
   omega
abbrev PlN:=Option Str×Str
def ZdV(m:Str):Ex→List PlN
 | .nm n=>[(some m,n)]
 | .of n a=>[(some m,n),(none,a)]
 | _=>[]
def plE(m:Str)(e:Ex):List PlN:=e.rds.flatMap (ZdV m)
def plT(m:Str):Stm→List PlN
 | .frm t w n=>[(some t,w),(some m,n)]
 | .set n _=>[(some m,n)]
 | .del n=>[(some m,n)]
 | .fn n _=>[(some m,n)]
 | .imp _ n=>[(some m,n)]
 | _=>[]
def plS(m:Str)(s:Stm):List PlN:=s.exprs.flatMap (plE m)++plT m s
def plV:Option Str→V
 | some m=>.str m
 | none=>.non
def plD(x:PlN):PyData:=.tuple [match x.1 with | some m=>.str m | none=>.none,.str x.2]
theorem ZkQ(m:Str)(e:Ex):(ZdV m e).length ≤ 2:=by cases e <;> simp[ZdV]
theorem Zgg(m:Str):∀ l:List Ex,(l.flatMap (ZdV m)).length ≤ 2 * l.length
 | []=>by simp
 | e :: r=>by
   have h1:=ZkQ m e
   have h2:=Zgg m r
   rw[Yz,Yc,Yd]
   omega
theorem ZlR(a b:V)(l:List V):cutV (a :: b :: l) (some 2) none=l:=by
 unfold cutV
 rw[show(some (2:Int))=some ((2:Nat):Int)from rfl,HT.sIx_nat,HT.sIx_none]
 simp only[Yd]
 rw[show min 2 (l.length + 1 + 1)=2 by omega]
 simp
section
variable {K:YC} {H H':Hp} {Q:VK} {D:Ends} {m:Str} {p:YF} {ws:List V}
def ZaO(K:YC)(n:Nat):Sp:=fun vs H Q _=>∃ v e,vs=[v]∧Im K H v (Ex.d e)∧e.dep < n∧n ≤ 10∧∀ p ws H',H p=none→Zb [] H H'→H' p=some (.lst ws)→ImAll K H' ws (e.rds.map Ex.d)→Q (.ref p) H'
def Zfy(K:YC)(sp:Sp):TS:=(Xb (Xk (tB (Xo (Zo K) [] E0 (YV (YU 0) Y1))) (Xj (Zbi Y1)) Xq)
 (Xj (tIf (Xe (tOp (Zi9 K) (tOp (rIx K) (YU 0) (tC (.int 0))) (Zf K (YV (tC (.str "name")) (YV (tC (.str "of")) Y1))))) (Zbi (YV (YU 0) Y1)) (tOp (rAdd K) (Xo sp [] E0 (YV (tOp (rIx K) (YU 0) (tC (.int 1))) Y1)) (Xo sp [] E0 (YV (tOp (rIx K) (YU 0) (tC (.int 2))) Y1))))))
def ZlS:List Str:=["expr"]
theorem ZiU{n:Nat}(vs:List V)(H:Hp)(Q:VK)(E:XK)(h:ZaO K (n + 1) vs H Q E):Zfy K (ZaO K n) { nx:=fun _ H'=>Q .non H',rt:=Q } (start ZlS vs) H:=by
 obtain⟨v,e,rfl,hi,hd,hn,q⟩:=h
 show Zfy K _ _ [some v] H
 unfold Zfy
 have sz:=Z3
 cases e with
 | int i =>
   cases hi
   row_readAll go
   refine Zbr (by row_readAll ln) fun p H1 f1 k1 g1=>q p [] H1 f1 k1 g1 .nil
 | nm x =>
   have hi0:=hi
   obtain⟨a,xs,rfl,hs,ha⟩:=hi.of_tup
   obtain⟨v0,r,rfl,h0,ha⟩:=ha.of_cons
   obtain⟨v1,r,rfl,h1,ha⟩:=ha.of_cons
   cases ha.of_nil; cases h0.of_str; cases h1.of_str
   row_readAll ga
   refine Zbr (by row_readAll ln) fun p H1 f1 k1 g1=>?_
   refine q p _ H1 (by row_readAll kf) (by row_readAll kp) g1 (.cons (hi0.mono (by row_readAll kp)) .nil)
 | of x y =>
   have hi0:=hi
   obtain⟨a,xs,rfl,hs,ha⟩:=hi.of_tup
   obtain⟨v0,r,rfl,h0,ha⟩:=ha.of_cons
   obtain⟨v1,r,rfl,h1,ha⟩:=ha.of_cons
   obtain⟨v2,r,rfl,h2,ha⟩:=ha.of_cons
   cases ha.of_nil; cases h0.of_str; cases h1.of_str; cases h2.of_str
   row_readAll ga
   refine Zbr (by row_readAll ln) fun p H1 f1 k1 g1=>?_
   refine q p _ H1 (by row_readAll kf) (by row_readAll kp) g1 (.cons (hi0.mono (by row_readAll kp)) .nil)
 | bin s l r =>
   obtain⟨a,xs,rfl,hs,ha⟩:=hi.of_tup
   obtain⟨v0,r',rfl,h0,ha⟩:=ha.of_cons
   obtain⟨v1,r',rfl,h1,ha⟩:=ha.of_cons
   obtain⟨v2,r',rfl,h2,ha⟩:=ha.of_cons
   cases ha.of_nil; cases h0.of_str
   have dl:l.dep < n:=by simp only[Ex.dep]at hd; omega
   have dr:r.dep < n:=by simp only[Ex.dep]at hd; omega
   have el:=ZeZ l
   have er:=ZeZ r
   have pl : 2 ^ l.dep ≤ 2 ^ 10:=Nat.pow_le_pow_right (by decide) (by omega)
   have pr : 2 ^ r.dep ≤ 2 ^ 10:=Nat.pow_le_pow_right (by decide) (by omega)
   cases s <;>
   ·row_readAll ga
    refine⟨v1,l,rfl,h1.mono (by row_readAll kp),dl,by omega,fun p1 w1 H2 f2 k2 g2 i2=>?_⟩
    row_readAll ga
    refine⟨v2,r,rfl,h2.mono (by row_readAll kp),dr,by omega,fun p2 w2 H3 f3 k3 g3 i3=>?_⟩
    have lw1:=i2.length
    have lw2:=i3.length
    rw[Yb]at lw1 lw2
    refine Zk3 (k3.obj _ _ Ya g2) g3 (by omega) fun p4 H4 f4 k4 g4=>?_
    refine q p4 _ H4 (by row_readAll kf) (by row_readAll kp) g4 ?_
    simp only[Ex.rds,Yl]
    exact(((i2.mono k3).mono k4).append (i3.mono k4))
def Zb2(K:YC):Sp:=fun vs H Q _=>∃ m v s,vs=[.str m,v]∧Im K H v (Stm.d s)∧(∀ e∈s.exprs,e.dep < 5)∧∀ p ws H',H p=none→Zb [] H H'→H' p=some (.lst ws)→ImAll K H' ws ((plS m s).map plD)→Q (.ref p) H'
def Zc9(K:YC)  : TS:=(Xb (Xk (Xe (tOp (ZbB K) (tOp (rIx K) (YU 1) (tC (.int 0))) (tC (.str "from")))) (tAug 2 (Zbi (YV (Zf K (YV (tOp (rIx K) (YU 1) (tC (.int 1))) (YV (tOp (rIx K) (YU 1) (tC (.int 2))) Y1))) (YV (Zf K (YV (YU 0) (YV (tOp (rIx K) (YU 1) (tC (.int 3))) Y1))) Y1))) Zhi) (Xk (Xe (tOp (Zi9 K) (tOp (rIx K) (YU 1) (tC (.int 0))) (Zf K (YV (tC (.str "set")) (YV (tC (.str "del")) (YV (tC (.str "def")) (YV (tC (.str "\x69mport")) Y1))))))) (Xp (tBM K "list" rAppend (YU 2) (YV (Zf K (YV (YU 0) (YV (tOp (rIx K) (Xo (Zan K) [] E0 (YV (YU 1) Y1)) (tUn ZnD (tC (.int 1)))) Y1))) Y1))) Xq))
 (Xj (YU 2)))
def Zc_(K:YC)  : TS:=(tFor (Zg4 K (Xo (ZaO K 5) [] E0 (YV (YU 3) Y1))) (Y6 4) (Xb (Xp (tBM K "list" rAppend (YU 2) (YV (Zf K (YV (YU 0) (YV (tOp (rIx K) (YU 4) (tC (.int 1))) Y1))) Y1)))
 (tAug 2 (tLc (Zg4 K (L2.tSl (rSlA K) (YU 4) (tPart (tC (.int 2))) tNoPart)) (Y6 5) tYes (Zf K (YV (tC .non) (YV (YU 5) Y1))) [5]) Zhi)))
def Zda(K:YC)  : TS:=(Xb (Xm (Zbi Y1) (Y6 2))
 (Xb (tFor (Zg4 K (Xo (ZP K) [] E0 (YV (YU 1) Y1))) (Y6 3) (Zc_ K ))
 (Zc9 K )))
def Zjv:List Str:=["module", "statement", "found", "expr", "part", "name"]
theorem ZtB{e:Ex}{v1:V}{v4 v5:Option V}{v3:V}{ds:List PlN}(ie:Im K H v3 (Ex.d e))(hd:e.dep < 5)(g:H p=some (.lst ws))(iw:ImAll K H ws (ds.map plD))(hl:ds.length ≤ 100000)
  (q:∀ o4 o5 ws' H',Zb [p] H H'→H' p=some (.lst ws')→ImAll K H' ws' ((ds++plE m e).map plD)→D.nx [some (.str m),some v1,some (.ref p),some v3,o4,o5] H') :
  Zc_ K D [some (.str m),some v1,some (.ref p),some v3,v4,v5] H:=by
 unfold Zc_
 have sz:=Z3
 row_readAll go
 refine⟨v3,e,rfl,ie,hd,by decide,fun lp rs H1 f1 k1 g1 i1=>?_⟩
 have el:=ZeZ e
 have pl : 2 ^ e.dep ≤ 2 ^ 10:=Nat.pow_le_pow_right (by decide) (by omega)
 have lr:=i1.length
 rw[Yb]at lr
 have np:lp≠p:=fun z=>by rw[z,g]at f1; cases f1
 row_readAll go
 refine .inl ⟨⟨_,SqL.of g1⟩,?_⟩
 obtain⟨P1,hP1⟩:∃ P1:Nat→L2.St→Hp→Prop,∀ i' σ' H',P1 i' σ' H'↔(∃ o4 o5 ws',σ'=[some (.str m),some v1,some (.ref p),some v3,o4,o5]∧Zb [p] H1 H'∧H' p=some (.lst ws')∧ImAll K H' ws' ((ds++(e.rds.take i').flatMap (ZdV m)).map plD)):=⟨_,fun _ _ _=>Iff.rfl⟩
 refine Zgr (S:=[p]) (Wk.lst (SqL.of g1) (by simpa using np)) P1 (fun i' σ' H' z=>by obtain⟨_,_,_,_,k,_⟩:=(hP1 _ _ _).mp z; exact k) ((hP1 _ _ _).mpr ⟨_,_,ws,rfl,Zb.refl _ _,k1.obj _ _ Ya g,by simpa using iw.mono k1⟩) ?_ ?_
 ·intro j y σ1 H2 H3 hy hp k3
  obtain⟨o4,o5,ws',rfl,k2,g2,i2⟩:=(hP1 _ _ _).mp hp
  obtain⟨dd,hdd,iy⟩:=i1.get hy
  rw[Ym,Option.map_eq_some_iff]at hdd
  obtain⟨x,hx,rfl⟩:=hdd
  have k23:=k2.step0 k3
  have iy3:=(iy.mono k2).mono k3
  have g3:=k3.obj _ _ Ya g2
  have i3:=i2.mono k3
  have lw:=i3.length
  have lt:=Zgg m (e.rds.take j)
  rw[Yu]at lt
  rw[Yb,Yc]at lw
  have mx:x∈e.rds:=Yj hx
  have snoc:e.rds.take (j + 1)=e.rds.take j++[x]:=take_snoc hx
  have shape:(∃ n,x = .nm n)∨∃ n a,x = .of n a:=by
   have:∀ e:Ex,x∈e.rds→(∃ n,x = .nm n)∨∃ n a,x = .of n a:=by
    intro e
    induction e with
    | int i=>intro h; simp[Ex.rds]at h
    | nm n=>intro h; simp[Ex.rds]at h; exact .inl ⟨n,h⟩
    | of n a=>intro h; simp[Ex.rds]at h; exact .inr ⟨n,a,h⟩
    | bin s l r i1 i2=>intro h; simp only[Ex.rds,Yh]at h; exact h.elim i1 i2
   exact this e mx
  have main:∀ (cT:YF) (w0 n:Str) (rest:List Str),SqT K H3 cT (V.str w0 :: V.str n :: rest.map V.str)→rest.length ≤ 1→ZdV m x=(some m,n) :: rest.map (fun a=>((none,a):PlN)) →
    Xb (Xp (tBM K "list" rAppend (YU 2) (YV (Zf K (YV (YU 0) (YV (tOp (rIx K) (YU 4) (tC (.int 1))) Y1))) Y1)))
     (tAug 2 (tLc (Zg4 K (L2.tSl (rSlA K) (YU 4) (tPart (tC (.int 2))) tNoPart)) (Y6 5) tYes (Zf K (YV (tC .non) (YV (YU 5) Y1))) [5]) Zhi) { D with nx:=P1 (j + 1),ct:=P1 (j + 1),bk:=D.nx } [some (.str m),some v1,some (.ref p),some v3,some (.ref cT),o5] H3:=by
   intro cT w0 n rest sT hr ep
   row_readAll go
   refine⟨.inl ⟨rfl,_,SqL.of g3⟩,?_⟩
   row_readAll go
   refine Zgn sT (atI_nat (j:=1) rfl) ?_
   refine Zj (by row_readAll ln) fun q1 H4 f4 k4 s4=>?_
   row_readAll go
   refine ZcY (k4.obj _ _ Ya g3) (by omega) fun H5 k5 g5=>?_
   row_readAll gg
   refine ZmH (k5.sqT (k4.sqT sT)) fun p6 H6 k6 s6=>?_
   row_readAll go
   rw[show cutV (V.str w0 :: V.str n :: rest.map V.str) (some 2) none=rest.map V.str from ZlR _ _ _]at s6
   refine .inr ⟨⟨_,s6⟩,?_⟩
   have k36:Zb [p] H3 H6:=(k4.nil.trans k5).step0 k6
   refine Zlb (S:=[]) (Wk.tup s6) (fun D i H2=>Zb [] H6 H2∧∃ zs,H2 D=some (.lst zs)∧ImAll K H2 zs ((rest.take i).map fun a=>plD (none,a))) (fun _ _ _ p=>p.1) (fun D H2 _ k g=>⟨k,[],g,.nil⟩) ?_ ?_
   ·rintro D6 i x7 H7 H8 f7 hx ⟨k7,zs,g7,i7⟩ k8
    rw[Ym,Option.map_eq_some_iff]at hx
    obtain⟨b,hb,rfl⟩:=hx
    have lz:=i7.length
    rw[Yb,Yu]at lz
    row_readAll go
    refine Zj (by row_readAll ln) fun q9 H9 f9 k9 s9=>?_
    refine lay (k9.obj _ _ Ya (k8.obj _ _ Ya g7)) (by omega) fun H10 k10 g10=>⟨((k7.trans k8).trans k9).step1 k10 f7,_,g10,?_⟩
    rw[take_snoc hb,Yl]
    exact(((i7.mono k8).mono k9).mono k10).append (.cons (.tup (k10.sqT s9) (.cons .non (.cons (.str _) .nil))) .nil)
   ·rintro D6 H7 f7 ⟨k7,zs,g7,i7⟩
    rw[Yb,Yt]at i7
    have lz:=i7.length
    rw[Yb]at lz
    row_readAll go
    have g57:=(k6.trans k7).obj _ _ Ya g5
    refine ZnL g57 g7 (by rw[Yc]; simp only[Yd,Yi]; omega) fun H8 k8 g8=>?_
    row_readAll go
    refine(hP1 _ _ _).mpr ⟨_,_,_,rfl,(k23.trans (k36.step0 k7)).trans k8,g8,?_⟩
    have k48:Zb [p] H4 H8:=(k5.step0 (k6.trans k7)).trans k8
    have k38:Zb [p] H3 H8:=(k36.step0 k7).trans k8
    rw[snoc,List.flatMap_append,Yz,List.flatMap_nil,List.append_nil,ep,← Ys,Yl]
    have tl:ImAll K H8 (V.ref q1 :: zs) (((some m,n) :: rest.map (fun a=>((none,a):PlN))).map plD):=by
     rw[Yr,Yx]
     exact .cons (.tup (k48.sqT s4) (.cons (.str _) (.cons (.str _) .nil))) (i7.mono k8)
    have:=(i3.mono k38).append tl
    rw[show ws'++V.ref q1 :: zs=ws'++[V.ref q1]++zs by simp]at this
    exact this
  rcases shape with⟨n,rfl⟩ | ⟨n,a,rfl⟩
  ·obtain⟨cT,xs,rfl,sT,iT⟩:=iy3.of_tup
   obtain⟨u0,r,rfl,j0,iT⟩:=iT.of_cons
   obtain⟨u1,r,rfl,j1,iT⟩:=iT.of_cons
   cases iT.of_nil; cases j0.of_str; cases j1.of_str
   exact main cT "name" n [] sT (by simp) rfl
  ·obtain⟨cT,xs,rfl,sT,iT⟩:=iy3.of_tup
   obtain⟨u0,r,rfl,j0,iT⟩:=iT.of_cons
   obtain⟨u1,r,rfl,j1,iT⟩:=iT.of_cons
   obtain⟨u2,r,rfl,j2,iT⟩:=iT.of_cons
   cases iT.of_nil; cases j0.of_str; cases j1.of_str; cases j2.of_str
   exact main cT "of" n [a] sT (by simp) rfl
 ·intro σ1 H2 hp
  obtain⟨o4,o5,ws',rfl,k2,g2,i2⟩:=(hP1 _ _ _).mp hp
  rw[lr,Yt]at i2
  exact q o4 o5 ws' H2 (k1.nil.trans k2) g2 i2
theorem ZtC{a:YF}{xs:List V}{s:Stm}{v3 v4 v5:Option V}{ds:List PlN}(is_:Im K H (.ref a) (Stm.d s))(g:H p=some (.lst ws))(iw:ImAll K H ws (ds.map plD))(hl:ds.length ≤ 200000)
  (q:∀ ws' H',Zb [p] H H'→H' p=some (.lst ws')→ImAll K H' ws' ((ds++plT m s).map plD)→D.rt (.ref p) H') :
  Zc9 K D [some (.str m),some (.ref a),some (.ref p),v3,v4,v5] H:=by
 unfold Zc9
 have sz:=Z3
 have lw:=iw.length
 rw[Yb]at lw
 obtain⟨a',xs,ea,hs,hv⟩:=is_.stm
 cases ea
 have off:∀ (w0:Str) (H1:Hp) (c:YF),Zb [] H H1→SqT K H1 c [.str "set",.str "del",.str "def",.str "\x69mport"]→plT m s=[]→w0∉(["set", "del", "def", "\x69mport"]:List Str) →
   Zi9 K (.str w0) (.ref c) H1 fun x H'=>∃ k,x=V.bl k∧if k=true then tyV K "list" (V.ref p) H'∧Zan K [V.ref a] H' (fun x H1=>rIx K x (V.int (-1)) H1 fun x H1=>mkT K [V.str m,x] H1 fun x H1=>rAppend (V.ref p) [x] H1 fun x H1 =>
    Nx (Xj (YU 2)) D [some (V.str m),some (V.ref a),some (V.ref p),v3,v4,v5] H1) E0 else Nx (Xj (YU 2)) D [some (V.str m),some (V.ref a),some (V.ref p),v3,v4,v5] H':=by
  intro w0 H1 c k1 s1 e nm
  refine Zk5 (l:=["set", "del", "def", "\x69mport"]) s1 ?_
  rw[decide_eq_false nm]
  row_readAll go
  exact q ws H1 k1.nil (k1.obj _ _ Ya g) (by rw[e,List.append_nil]; exact iw.mono k1)
 have on:∀ (w0 n:Str) (H1:Hp) (c:YF),Zb [] H H1→SqT K H1 c [.str "set",.str "del",.str "def",.str "\x69mport"]→plT m s=[(some m,n)]→atI (s.names.map V.str) (-1)=some (.str n)→w0∈(["set", "del", "def", "\x69mport"]:List Str) →
   Zi9 K (.str w0) (.ref c) H1 fun x H'=>∃ k,x=V.bl k∧if k=true then tyV K "list" (V.ref p) H'∧Zan K [V.ref a] H' (fun x H1=>rIx K x (V.int (-1)) H1 fun x H1=>mkT K [V.str m,x] H1 fun x H1=>rAppend (V.ref p) [x] H1 fun x H1 =>
    Nx (Xj (YU 2)) D [some (V.str m),some (V.ref a),some (V.ref p),v3,v4,v5] H1) E0 else Nx (Xj (YU 2)) D [some (V.str m),some (V.ref a),some (V.ref p),v3,v4,v5] H':=by
  intro w0 n H1 c k1 s1 e en nm
  refine Zk5 (l:=["set", "del", "def", "\x69mport"]) s1 ?_
  rw[decide_eq_true nm]
  row_readAll go
  refine⟨.inl ⟨rfl,_,SqL.of (k1.obj _ _ Ya g)⟩,?_⟩
  refine⟨_,s,rfl,is_.mono k1,fun p' H2 k2 s2=>?_⟩
  refine Zgn s2 en ?_
  refine Zj (by row_readAll ln) fun c3 H3 f3 k3 s3=>?_
  have k13:=(k1.trans k2).trans k3
  refine ZcY (k13.obj _ _ Ya g) (by omega) fun H4 k4 g4=>?_
  row_readAll go
  refine q _ H4 (k13.nil.trans k4) g4 ?_
  rw[e,Yl]
  exact((iw.mono k13).mono k4).append (.cons (.tup (k4.sqT s3) (.cons (.str _) (.cons (.str _) .nil))) .nil)
 cases s <;> simp only[Stm.vs]at hv
 case' set=>obtain⟨v2,rfl,h2⟩:=hv
 case' shw=>obtain⟨v2,rfl,h2⟩:=hv
 case' call=>obtain⟨v2,rfl,h2⟩:=hv
 case' fn=>obtain⟨v2,rfl,h2⟩:=hv
 case' ite=>obtain⟨v1,v2,v3,rfl,h1,h2,h3⟩:=hv
 case' tri=>obtain⟨v2,v3,rfl,h2,h3⟩:=hv
 case' del=>subst hv
 case' raise=>subst hv
 case' imp=>subst hv
 case' frm=>subst hv
 case' star=>subst hv
 all_goals row_readAll ga
 case set=>exact on _ _ _ _ (by row_readAll kp) (by row_readAll sq) rfl rfl (by decide +kernel)
 case del=>exact on _ _ _ _ (by row_readAll kp) (by row_readAll sq) rfl rfl (by decide +kernel)
 case fn=>exact on _ _ _ _ (by row_readAll kp) (by row_readAll sq) rfl rfl (by decide +kernel)
 case imp=>exact on _ _ _ _ (by row_readAll kp) (by row_readAll sq) rfl rfl (by decide +kernel)
 case frm =>
  rename_i c1 H1 f1 k1 s1 c2 H2 f2 k2 s2
  have k02:=k1.trans k2
  refine Zbr (by row_readAll ln) fun l3 H3 f3 k3 g3=>?_
  have k03:=k02.trans k3
  have np:l3≠p:=fun z=>by
   have:=k02.obj _ _ Ya g
   rw[← z,f3]at this
   cases this
  refine ZnL (k03.obj _ _ Ya g) g3 (by simp only[Yd,Yi]; omega) fun H4 k4 g4=>?_
  row_readAll go
  refine q _ H4 (k03.nil.trans k4) g4 ?_
  rw[Yl]
  refine((iw.mono k03).mono k4).append (.cons (.tup (k4.sqT (k3.sqT (k2.sqT s1))) (.cons (.str _) (.cons (.str _) .nil))) (.cons (.tup (k4.sqT (k3.sqT s2)) (.cons (.str _) (.cons (.str _) .nil))) .nil))
 all_goals exact off _ _ _ (by row_readAll kp) (by row_readAll sq) rfl (by decide +kernel)
theorem Zg9(vs:List V)(H:Hp)(Q:VK)(E:XK)(h:Zb2 K vs H Q E):Zda K { nx:=fun _ H'=>Q .non H',rt:=Q } (start Zjv vs) H:=by
 obtain⟨m,v,s,rfl,hi,hd,q⟩:=h
 show Zda K _ [some (.str m),some v,none,none,none,none] H
 unfold Zda
 have sz:=Z3
 obtain⟨a,xs,rfl,hs,hv⟩:=hi.stm
 row_readAll go
 refine Zbr (by row_readAll ln) fun p H1 f1 k1 g1=>?_
 row_readAll go
 refine⟨_,s,rfl,hi.mono k1,fun c H2 k2 ic=>?_⟩
 obtain⟨c',ys,ec,sc,iy⟩:=ic.of_tup
 cases ec
 have g2:=k2.obj _ _ Ya g1
 have ly:=iy.length
 rw[Yb]at ly
 have le:s.exprs.length ≤ 1:=by cases s <;> simp[Stm.exprs]
 row_readAll go
 refine .inr ⟨⟨_,sc⟩,?_⟩
 obtain⟨P1,hP1⟩:∃ P1:Nat→L2.St→Hp→Prop,∀ i' σ' H',P1 i' σ' H'↔(∃ o3 o4 o5 ws',σ'=[some (.str m),some (.ref a),some (.ref p),o3,o4,o5]∧Zb [p] H2 H'∧H' p=some (.lst ws')∧ImAll K H' ws' (((s.exprs.take i').flatMap (plE m)).map plD)):=⟨_,fun _ _ _=>Iff.rfl⟩
 refine Zgr (S:=[p]) (Wk.tup sc) P1 (fun i' σ' H' z=>by obtain⟨_,_,_,_,_,k,_⟩:=(hP1 _ _ _).mp z; exact k) ((hP1 _ _ _).mpr ⟨_,_,_,[],rfl,Zb.refl _ _,g2,.nil⟩) ?_ ?_
 ·intro j y σ1 H3 H4 hy hp k4
  obtain⟨o3,o4,o5,ws',rfl,k3,g3,i3⟩:=(hP1 _ _ _).mp hp
  obtain⟨dd,hdd,iye⟩:=iy.get hy
  rw[Ym,Option.map_eq_some_iff]at hdd
  obtain⟨e,he,rfl⟩:=hdd
  have j0:j=0:=by have:=Zdl he; omega
  subst j0
  have k34:=k3.step0 k4
  row_readAll go
  refine ZtB (ds:=[]) (e:=e) ((iye.mono k3).mono k4) (hd e (Yj he)) (k4.obj _ _ Ya g3) (i3.mono k4) (by simp) fun o4 o5 ws2 H5 k5 g5 i5=>?_
  refine(hP1 _ _ _).mpr ⟨_,_,_,_,rfl,k34.trans k5,g5,?_⟩
  rw[take_snoc he]
  simpa using i5
 ·intro σ1 H3 hp
  obtain⟨o3,o4,o5,ws',rfl,k3,g3,i3⟩:=(hP1 _ _ _).mp hp
  rw[ly,Yt]at i3
  have k02:Zb [] H H3:=(k1.trans k2).step1 k3 f1
  have lb:((s.exprs).flatMap (plE m)).length ≤ 200000:=by
   have:∀ l:List Ex,l.length ≤ 1→(∀ e∈l,e.dep < 5)→(l.flatMap (plE m)).length ≤ 200000:=by
    intro l hl hdl
    match l,hl with
    | [],_=>simp
    | [e],_ =>
      have h1:=Zgg m e.rds
      have h2:=ZeZ e
      have h3 : 2 ^ e.dep ≤ 2 ^ 5:=Nat.pow_le_pow_right (by decide) (by have:=hdl e (by simp); omega)
      rw[Yz,List.flatMap_nil,List.append_nil]
      unfold plE
      omega
   exact this _ le hd
  refine ZtC (xs:=[]) (hi.mono k02) g3 i3 lb fun ws2 H4 k4 g4 i4=>?_
  exact q p ws2 H4 f1 (k02.step1 k4 f1) g4 i4
end
end M
namespace M
open PySem PySem.Spec PyProof.Rows L2 L2H SlX GenW
structure ZmT(P:YG)(w:YH)(K:YC)(mg:Str→Option YI)(base:Heap)(k:Nat)(C:YF):Prop where
 ex:∃ (p1 p2 f:YF) (fd:YE) (params:Arguments) (scope:Scope) (qual:Str) (c:ZcF),Zjt K C p1 p2∧Meth K C "each_statement" f∧FunD K "each_statement" qual params c.b0 scope [] [] f fd∧Zq_ ["self", "name", "path", "statement"] ["self"] scope ∧
  Binds K fd ["self"] []∧∀ (cdv:YI) (A:Around) (outer:List Env) (s:YJ) (H:Hp),Room k (A.deeper (envOfC qual scope s.heap.objs.size f cdv))→ZmJ (Znw P w K mg base ["self", "name", "path", "statement"] qual scope f cdv A outer s H) c
theorem Zsq{X:Cx}{o:Expr}{te:TE}{C:YF}{apos pos:Pos}{k j:Nat}{pl:Sem Bool}(E:ZmT X.prog X.w X.K X.mg X.base k C)(hr:Room j X.A)(hk:k + 1 ≤ j)(hx:∀ e s',¬ X.xe e s')(hc:X.calm=true)(he:PE X o te)
  (ht:eval (.Call (.Attribute o "each_statement" apos) [] [] pos) X.env=(do
   let ov ← eval o X.env
   standAt apos.atName
   let (f,first) ← holding [ov] (getMethod ov "each_statement" pl)
   callWith pos f first (backTo pos (starEach [] X.env)) (backToKw pos (keywordEach [] X.env))):=by rfl) :
  PIG X (.Call (.Attribute o "each_statement" apos) [] [] pos) (ZoD X.K C te):=by
 obtain⟨p1,p2,f,fd,params,scope,qual,c,T,hm,F,S,hb,D⟩:=E.ex
 exact ZmS (pl:=pl) hx hc he T hm F S hb (hr.mono hk) D ht
def Zg_(x:PlN):List V:=[plV x.1,.str x.2]
def ZlT(K:YC):R2:=fun x y H Q=>∃ (a l:YF) (t:PlN) (vs:List V) (ds:List PlN),x = .ref a∧y = .ref l∧SqT K H a (Zg_ t)∧SqL K H l vs∧ImAll K H vs (ds.map plD)∧SeqAt.shaped (plD t)=true∧(∀ d∈ds,SeqAt.shaped (plD d)=true)∧Q (.bl (!decide (t∈ds))) H
theorem Znx{K:YC}{H:Hp}{b:YF}{d:PlN}(h:SqT K H b (Zg_ d)):Im K H (.ref b) (plD d):=by
 obtain⟨m,n⟩:=d
 cases m with
 | none=>exact .tup h (.cons .non (.cons (.str _) .nil))
 | some m=>exact .tup h (.cons (.str _) (.cons (.str _) .nil))
theorem ZlU{K:YC}{H:Hp}{v:V}{d:PlN}(h:Im K H v (plD d)):∃ b,v = .ref b∧SqT K H b (Zg_ d):=by
 obtain⟨b,xs,rfl,sb,ib⟩:=h.of_tup
 obtain⟨m,n⟩:=d
 obtain⟨u1,r,rfl,i1,ib⟩:=ib.of_cons
 obtain⟨u2,r,rfl,i2,ib⟩:=ib.of_cons
 cases ib.of_nil
 cases i2.of_str
 cases m with
 | none=>cases i1; exact⟨b,rfl,sb⟩
 | some m=>cases i1.of_str; exact⟨b,rfl,sb⟩
theorem ZoE(d t:PlN):PyData.eqv (plD d) (plD t)=decide (d=t):=by
 obtain⟨m,n⟩:=d
 obtain⟨m',n'⟩:=t
 have be:∀ a b:Str,(a == b)=decide (a=b):=fun a b=>by rw[Bool.eq_iff_iff,beq_iff_eq,decide_eq_true_eq]
 cases m <;> cases m' <;> simp[plD,PyData.eqv,PyData.eqvAll,Prod.mk.injEq,be]
theorem Zjw{X:Cx}(hu:X.A.units + 80 < cLine):OpR X (compareOp .NotIn) (ZlT X.K):=by
 intro pins s σ H x y v u Q I rx ry h
 obtain⟨a,l,t,vs,ds,rfl,rfl,sa,sl,ia,ht,hd,q⟩:=h
 cases (show v=Value.ref a from rx)
 cases (show u=Value.ref l from ry)
 obtain⟨its,r,pl,hz⟩:=I.list sl
 classical
 refine SeqAt.notIn_listAt (fun z=>decide (∃ b,z=Value.ref b∧SqT X.K H b (Zg_ t))) pl.isList (fun z hz=>?_) ?_
 ·have hz:z∈its:=by simpa using hz
  obtain⟨i,hi⟩:=List.mem_iff_getElem?.mp hz
  have hl:=r.length
  obtain⟨xv,hx⟩:∃ xv,vs[i]? = some xv:=⟨_,Yw (by have:=(Yk.mp hi).1; omega)⟩
  obtain⟨z',hz',rz⟩:=r.get hx
  rw[hi]at hz'
  cases hz'
  obtain⟨dd,hdd,ix⟩:=ia.get hx
  rw[Ym,Option.map_eq_some_iff]at hdd
  obtain⟨d,hd',rfl⟩:=hdd
  obtain⟨b,rfl,sb⟩:=ZlU ix
  obtain rfl:z=Value.ref b:=rz
  obtain⟨as,r1⟩:=Dp.reads I (plD d) (.ref b) (.ref b) (Znx sb).dp rfl
  obtain⟨bs,r2⟩:=Dp.reads I (plD t) (.ref a) (.ref a) (Znx sa).dp rfl
  have k:=PySem.W.keq_at (A:=X.A) r1 r2 (hd d (Yj hd')) ht (by show X.A.units + 1 + 64 < cLine; omega)
  rw[ZoE]at k
  have e:decide (∃ b',Value.ref b=Value.ref b'∧SqT X.K H b' (Zg_ t))=decide (d=t):=by
   refine decide_eq_decide.mpr ⟨fun⟨b',e1,e2⟩=>?_,fun e=>⟨b,rfl,by rw[← e]; exact sb⟩⟩
   cases e1
   have:=I.tuple_inj sb e2
   obtain⟨m,n⟩:=d
   obtain⟨m',n'⟩:=t
   unfold Zg_ at this
   simp only[List.cons.injEq,V.str.injEq,and_true]at this
   obtain⟨h1,h2⟩:=this
   have hm:m=m':=by cases m <;> cases m' <;> simp[plV]at h1 ⊢ <;> exact h1
   exact Prod.ext hm h2
  rw[e]
  exact k
 ·have e:its.toArray.any (fun z=>decide (∃ b,z=Value.ref b∧SqT X.K H b (Zg_ t)))=decide (t∈ds):=by
   rw[Bool.eq_iff_iff,decide_eq_true_eq]
   simp only[List.any_toArray,List.any_eq_true,decide_eq_true_eq]
   constructor
   ·rintro⟨z,hz,b,rfl,sb⟩
    obtain⟨i,hi⟩:=List.mem_iff_getElem?.mp hz
    have hl:=r.length
    obtain⟨xv,hx⟩:∃ xv,vs[i]? = some xv:=⟨_,Yw (by have:=(Yk.mp hi).1; omega)⟩
    obtain⟨z',hz',rz⟩:=r.get hx
    rw[hi]at hz'
    cases hz'
    obtain⟨dd,hdd,ix⟩:=ia.get hx
    rw[Ym,Option.map_eq_some_iff]at hdd
    obtain⟨d,hd',rfl⟩:=hdd
    obtain⟨b',rfl,sb'⟩:=ZlU ix
    cases (show Value.ref b=Value.ref b' from rz)
    have:=I.tuple_inj sb' sb
    obtain⟨m,n⟩:=d
    obtain⟨m',n'⟩:=t
    unfold Zg_ at this
    simp only[List.cons.injEq,V.str.injEq,and_true]at this
    obtain⟨h1,h2⟩:=this
    have hm:m=m':=by cases m <;> cases m' <;> simp[plV]at h1 ⊢ <;> exact h1
    rw[← show(m,n)=(m',n')from Prod.ext hm h2]
    exact Yj hd'
   ·intro hm
    obtain⟨i,hi⟩:=List.mem_iff_getElem?.mp hm
    have hl:=ia.length
    rw[Yb]at hl
    obtain⟨xv,hx⟩:∃ xv,vs[i]? = some xv:=⟨_,Yw (by have:=(Yk.mp hi).1; omega)⟩
    obtain⟨dd,hdd,ix⟩:=ia.get hx
    rw[Ym,hi]at hdd
    cases hdd
    obtain⟨b,rfl,sb⟩:=ZlU ix
    obtain⟨z,hz,rz⟩:=r.get hx
    exact⟨z,Yj hz,b,rz,sb⟩
  rw[e]
  exact⟨.bl _,H,I,rfl,q⟩
local macro_rules | `(tactic| row_readAll n4) => `(tactic| simp only [Zcc, Zcd, Zc7, Zh4, Zce, Zfx, Zc8, Zg6])
local macro_rules | `(tactic| row_readAll gg) => `(tactic| ((try row_readAll go); (try row_readAll n4); (try row_readAll go); (try row_readAll n4); (try row_readAll go)))
abbrev Zl_:=Str×Pth×Stm
def Zbt(P:Prg):List Zl_:=P.flatMap fun x=>(walkL [] 0 x.2).map fun r=>(x.1,r)
theorem ZfI:∀ P:Prg,ZgO P=(Zbt P).map fun x=>Zoz x.1 x.2
 | []=>rfl
 | x :: r=>by
   rw[Zhv,ZfI r]
   simp only[Zbt,ZmI,Yz,Yl,Yx]
   rfl
def Zhw(l:List Zl_):List PlN:=l.flatMap fun x=>plS x.1 x.2.2
def Stm.isStar:Stm→Bool
 | .star _=>true
 | _=>false
def Zfa(P:Prg)(t old new:Str):Bool:=!(Zbt P).any (fun x=>x.2.2.isStar) && (!decide (((none,old):PlN)∈Zhw (Zbt P)) && (!decide (((none,new):PlN)∈Zhw (Zbt P)) && !decide (((some t,new):PlN)∈Zhw (Zbt P))))
theorem ZgP{P:Prg}{x:Zl_}(h:x∈Zbt P):∃ b,(x.1,b)∈P∧x.2∈walkL [] 0 b:=by
 obtain⟨y,hy,hx⟩:=List.mem_flatMap.mp h
 obtain⟨r,hr,rfl⟩:=Yq.mp hx
 exact⟨y.2,hy,hr⟩
theorem ZlV{P:Prg}(ok:Zbm P):(Zbt P).length ≤ 480:=by
 have:∀ Q:Prg,(∀ x∈Q,Zcr x.2)→(Zbt Q).length ≤ 60 * Q.length:=by
  intro Q
  induction Q with
  | nil=>intro _; simp[Zbt]
  | cons x r ih =>
    intro h
    have h1:=ih fun y hy=>h y (Yf _ hy)
    have h2:=(h x Yg).cnt
    unfold Zbt at h1 ⊢
    rw[Yz,Yc,Yb,walk_len,Yd]
    omega
 have h1:=this P ok.blk
 have h2:=ok.few
 omega
def ZlW(x:Zl_):Prop:=okN x.1∧x.2.2.wf
theorem Zh5{P:Prg}(ok:Zbm P){x:Zl_}(h:x∈Zbt P):ZlW x:=by
 obtain⟨b,hb,hx⟩:=ZgP h
 exact⟨ok.nm _ hb,walk_wf b [] 0 (ok.blk _ hb).wf _ hx⟩
theorem Zh6{s:Stm}(h:s.wf):(∀ e∈s.exprs,e.wf 3)∧s.exprs.length ≤ 1:=by
 cases s <;> simp only[Stm.exprs,Stm.wf,Ye,forall_eq,List.length_singleton,Ya,false_implies,implies_true,Yi,and_true,true_and,YQ,YR]at h ⊢ <;> first | exact trivial | exact h | exact h.2 | exact h.1
theorem ZoF(m:Str){e:Ex}(h:e.wf 3):(plE m e).length ≤ 16:=by
 have h1:=Zgg m e.rds
 have h2:=ZeZ e
 have h3 : 2 ^ e.dep ≤ 2 ^ 3:=Nat.pow_le_pow_right (by decide) h.dep
 unfold plE
 omega
theorem ZlX{x:Zl_}(h:ZlW x):(plS x.1 x.2.2).length ≤ 18:=by
 obtain⟨m,p,s⟩:=x
 obtain⟨h1,h2⟩:=Zh6 h.2
 unfold plS
 rw[Yc]
 have ht:(plT m s).length ≤ 2:=by cases s <;> simp[plT]
 have he:(s.exprs.flatMap (plE m)).length ≤ 16:=by
  match e:s.exprs,h2 with
  | [],_=>simp
  | [y],_ =>
    rw[Yz,List.flatMap_nil,List.append_nil]
    exact ZoF m (h1 y (by show y∈s.exprs; rw[e]; simp))
 show(s.exprs.flatMap (plE m)).length + (plT m s).length ≤ 18
 omega
theorem Zkj:∀ {l:List Zl_},(∀ x∈l,ZlW x)→(Zhw l).length ≤ 18 * l.length
 | [],_=>by simp[Zhw]
 | x :: r,h=>by
   have h1:=Zkj fun y hy=>h y (Yf x hy)
   have h2:=ZlX (h x Yg)
   unfold Zhw at h1 ⊢
   rw[Yz,Yc,Yd]
   omega
def ZoW(d:PlN):Prop:=okN d.2∧∀ m,d.1=some m→okN m
theorem ZlY{d:PlN}(h:ZoW d):SeqAt.shaped (plD d)=true:=by
 obtain⟨m,n⟩:=d
 unfold plD
 rw[Zjf]
 intro y hy
 have h1:=h.1.lay
 cases m with
 | none =>
   simp only[Yn,Ya,or_false]at hy
   rcases hy with rfl | rfl
   ·exact⟨rfl,by simp[PyData.depth]⟩
   ·exact⟨h1,by simp[PyData.depth]⟩
 | some m =>
   have h2:=(h.2 m rfl).lay
   simp only[Yn,Ya,or_false]at hy
   rcases hy with rfl | rfl
   ·exact⟨h2,by simp[PyData.depth]⟩
   ·exact⟨h1,by simp[PyData.depth]⟩
theorem Zqx{m:Str}(hm:okN m):∀ {e:Ex} {d:Nat},e.wf d→∀ x∈plE m e,ZoW x:=by
 intro e
 induction e with
 | int i=>intro d _ x hx; simp[plE,Ex.rds]at hx
 | nm n =>
   intro d h x hx
   simp[plE,Ex.rds,ZdV]at hx
   subst hx
   have h:okN n:=by cases d <;> exact h
   exact⟨h,fun m' e=>by cases e; exact hm⟩
 | of n a =>
   intro d h x hx
   have h:okN n∧okN a:=by cases d <;> exact h
   simp[plE,Ex.rds,ZdV]at hx
   rcases hx with rfl | rfl
   ·exact⟨h.1,fun m' e=>by cases e; exact hm⟩
   ·exact⟨h.2,fun m' e=>by cases e⟩
 | bin s l r i1 i2 =>
   intro d h x hx
   cases d with
   | zero=>exact h.elim
   | succ d =>
     have h:l.wf d∧r.wf d:=h
     unfold plE at hx
     rw[Ex.rds,List.flatMap_append,Yh]at hx
     rcases hx with hx | hx
     ·exact i1 h.1 x hx
     ·exact i2 h.2 x hx
theorem Zqy{x:Zl_}(h:ZlW x):∀ d∈plS x.1 x.2.2,ZoW d:=by
 obtain⟨m,p,s⟩:=x
 obtain⟨hm,hs⟩:=h
 have hm:okN m:=hm
 have hs:s.wf:=hs
 intro d hd
 obtain⟨h1,h2⟩:=Zh6 hs
 rcases Yh.mp hd with hd | hd
 ·obtain⟨e,he,hd⟩:=List.mem_flatMap.mp hd
  exact Zqx hm (h1 e he) d hd
 ·cases s <;> simp only[plT,Stm.wf,Yn,Ya,or_false]at hs hd <;> first
   | exact hd.elim
   | (subst hd; exact⟨by first | exact hs.1 | exact hs | exact hs.2,fun m' e=>by cases e; exact hm⟩)
   | (rcases hd with rfl | rfl; exact⟨hs.2.1,fun m' e=>by cases e; exact hs.1⟩; exact⟨hs.2.2,fun m' e=>by cases e; exact hm⟩)
theorem ZoG{l:List Zl_}(h:∀ x∈l,ZlW x):∀ d∈Zhw l,ZoW d:=by
 intro d hd
 obtain⟨x,hx,hd⟩:=List.mem_flatMap.mp hd
 exact Zqy (h x hx) d hd
def Zby(K:YC)(CP:YF):Sp:=fun vs H Q _=>∃ pr P pf t old new,vs=[.ref pr,.str t,.str old,.str new]∧Zbs K H CP pr P pf∧Zbm P∧okN t∧okN old∧okN new∧∀ H',Zb [] H H'→Q (.bl (Zfa P t old new)) H'
def ZcG(K:YC)(CP:YF):TS:=(Xj (tAndV (tOp (ZlT K) (Zf K (YV (tC .non) (YV (YU 2) Y1))) (YU 4)) (tAndV (tOp (ZlT K) (Zf K (YV (tC .non) (YV (YU 3) Y1))) (YU 4)) (tOp (ZlT K) (Zf K (YV (YU 1) (YV (YU 3) Y1))) (YU 4)))))
def ZcA(K:YC)(CP:YF):TS:=(Xb (Xm (Zbi Y1) (Y6 4))
 (Xb (Zqb K (ZoD K CP (YU 0)) (gTup K 3 (gCons (Y6 5) (gCons (Y6 6) (gCons (Y6 7) gNil)))) (Xb (Xk (Xe (tOp (ZbB K) (tOp (rIx K) (YU 7) (tC (.int 0))) (tC (.str "star")))) (Xj (tC (.bl false))) Xq)
 (tAug 4 (Xo (Zb2 K) [] E0 (YV (YU 5) (YV (YU 7) Y1))) Zhi)))
 (ZcG K CP)))
def ZiV:List Str:=["program", "target", "old", "new", "places", "module", "path", "statement"]
section
variable {K:YC} {H:Hp} {Q:VK} {CP pr p:YF} {P:Prg} {pf:List YF} {t old new:Str} {D:Ends} {ws:List V}
theorem ZtD{v5 v6 v7:Option V}{ds:List PlN}(g:H p=some (.lst ws))(iw:ImAll K H ws (ds.map plD))(hd:∀ d∈ds,ZoW d)(ht:okN t)(ho:okN old)(hn:okN new)
  (q:∀ H',Zb [] H H'→D.rt (.bl (!decide (((none,old):PlN)∈ds) && (!decide (((none,new):PlN)∈ds) && !decide (((some t,new):PlN)∈ds)))) H') :
  ZcG K CP D [some (.ref pr),some (.str t),some (.str old),some (.str new),some (.ref p),v5,v6,v7] H:=by
 unfold ZcG
 have sz:=Z3
 have one:∀ (x:PlN) (H0:Hp) (Q:VK),Zb [] H H0→ZoW x→(∀ H',Zb [] H H'→Q (.bl (!decide (x∈ds))) H')→mkT K (Zg_ x) H0 fun y H1=>ZlT K y (.ref p) H1 Q:=by
  intro x H0 Q k0 hx q
  refine Zj (by unfold Zg_; row_readAll ln) fun c H1 f1 k1 s1=>?_
  have k:=k0.trans k1
  exact⟨c,p,x,ws,ds,rfl,rfl,s1,SqL.of (k.obj _ _ Ya g),iw.mono k,ZlY hx,fun d h=>ZlY (hd d h),q H1 k⟩
 row_readAll go
 refine one (none,old) H _ (Zb.refl _ _) ⟨ho,fun m e=>by cases e⟩ fun H1 k1=>?_
 generalize e1:decide (((none,old):PlN)∈ds)=b1 at q ⊢
 cases b1 with
 | true =>
   row_readAll go
   exact q H1 k1
 | false =>
   row_readAll go
   refine one (none,new) H1 _ k1 ⟨hn,fun m e=>by cases e⟩ fun H2 k2=>?_
   generalize e2:decide (((none,new):PlN)∈ds)=b2 at q ⊢
   cases b2 with
   | true =>
     row_readAll go
     exact q H2 k2
   | false =>
     row_readAll go
     refine one (some t,new) H2 _ k2 ⟨hn,fun m e=>by cases e; exact ht⟩ fun H3 k3=>?_
     exact q H3 k3
theorem ZgQ(vs:List V)(H:Hp)(Q:VK)(E:XK)(h:Zby K CP vs H Q E):ZcA K CP { nx:=fun _ H'=>Q .non H',rt:=Q } (start ZiV vs) H:=by
 obtain⟨pr,P,pf,t,old,new,rfl,xp,ok,ht,ho,hn,q⟩:=h
 show ZcA K CP _ [some (.ref pr),some (.str t),some (.str old),some (.str new),none,none,none,none] H
 unfold ZcA
 have sz:=Z3
 row_readAll go
 refine Zbr (by row_readAll ln) fun p H1 f1 k1 g1=>?_
 row_readAll go
 have xp1:=xp.k0 k1
 refine⟨_,rfl,pr,P,pf,rfl,xp1,ok.nd,fun x hx=>⟨(ok.blk x hx).dep,(ok.blk x hx).few⟩,?_⟩
 obtain⟨Pv,hPv⟩:∃ Pv:Nat→L2.St→Hp→Prop,∀ i σ H,Pv i σ H↔(∃ o5 o6 o7 ws,σ = [some (.ref pr),some (.str t),some (.str old),some (.str new),some (.ref p),o5,o6,o7]∧Zb [p] H1 H∧H p=some (.lst ws)∧ImAll K H ws ((Zhw ((Zbt P).take i)).map plD)∧((Zbt P).take i).any (fun x=>x.2.2.isStar)=false):=⟨_,fun _ _ _=>Iff.rfl⟩
 have lf:=ZlV ok
 refine⟨[p],Pv,fun b hb=>?_,(hPv _ _ _).mpr ⟨none,none,none,[],rfl,Zb.refl _ _,g1,.nil,by simp⟩,?_,?_⟩
 ·rw[Ye.mp hb]
  refine⟨fun z=>?_,fun hp=>?_⟩
  ·rw[g1]at z; cases z
  obtain⟨dx,nl,d,rfl,h1,h2,h3,m,h4,_⟩:=xp.ex
  simp only[Yn,Ya,or_false]at hp
  rcases hp with rfl | rfl | rfl | rfl
  ·rcases h1 with⟨z,_⟩ | ⟨z,_⟩ <;> (rw[f1]at z; cases z)
  ·rw[f1]at h2; cases h2
  ·rw[f1]at h3; cases h3
  ·rw[f1]at h4; cases h4
 ·intro i z x σ1 H2 H3 hz hp k3 ix
  obtain⟨o5,o6,o7,ws,rfl,k2,g2,i2,st⟩:=(hPv _ _ _).mp hp
  rw[ZfI,Ym,Option.map_eq_some_iff]at hz
  obtain⟨⟨m,pth,s⟩,hr,rfl⟩:=hz
  have mr:=Yj hr
  have okr:=Zh5 ok mr
  obtain⟨hm,hs⟩:=id okr
  have hs:s.wf:=hs
  obtain⟨aT,xs,rfl,sT,iT⟩:=ix.of_tup
  obtain⟨u0,r,rfl,j0,iT⟩:=iT.of_cons
  obtain⟨u1,r,rfl,j1,iT⟩:=iT.of_cons
  obtain⟨u2,r,rfl,j2,iT⟩:=iT.of_cons
  cases iT.of_nil; cases j0.of_str
  have g3:=k3.obj _ _ Ya g2
  have i3:=i2.mono k3
  have j2:Im K H3 u2 s.d:=j2
  obtain⟨aS,xS,rfl,sS,vS⟩:=j2.stm
  row_readAll go
  refine ZlN sT ?_
  row_readAll go
  have fin:s.isStar=true→∀ H',Zb [] H3 H'→Q (.bl false) H':=by
   intro e H' k'
   have:Zfa P t old new=false:=by
    unfold Zfa
    rw[List.any_eq_true.mpr ⟨_,mr,e⟩]
    rfl
   rw[← this]
   exact q H' (k1.step1 ((k2.step0 k3).step0 k') f1)
  obtain⟨wd,rd,rfl,hw⟩:∃ w r,xS=V.str w :: r∧decide (w = "star")=s.isStar:=by
   cases s <;> simp only[Stm.vs]at vS <;> first
    | (obtain⟨_,rfl,_⟩:=vS; exact⟨_,_,rfl,rfl⟩)
    | (obtain⟨_,_,rfl,_⟩:=vS; exact⟨_,_,rfl,rfl⟩)
    | (obtain⟨_,_,_,rfl,_⟩:=vS; exact⟨_,_,rfl,rfl⟩)
    | (subst vS; exact⟨_,_,rfl,rfl⟩)
  refine Zgn sS (atI_nat (j:=0) rfl) ?_
  refine Zo3 ?_
  rw[show decide (wd = "star")=s.isStar from hw]
  cases ns:s.isStar with
  | true =>
    row_readAll go
    exact fin ns H3 (Zb.refl _ _)
  | false =>
    row_readAll go
    refine⟨m,_,s,rfl,j2,fun e he=>by have:=((Zh6 hs).1 e he).dep; omega,fun p4 w4 H4 f4 k4 g4 i4=>?_⟩
    have l1:=i3.length
    have l2:=i4.length
    rw[Yb]at l1 l2
    have l3:=Zkj (l:=(Zbt P).take i) fun x hx=>Zh5 ok (List.mem_of_mem_take hx)
    have l4:=ZlX okr
    have l4:(plS m s).length ≤ 18:=l4
    rw[Yu]at l3
    refine ZnL (k4.obj _ _ Ya g3) g4 (by omega) fun H5 k5 g5=>?_
    row_readAll go
    have k35:Zb [p] H3 H5:=k4.nil.trans k5
    refine⟨k35,(hPv _ _ _).mpr ⟨_,_,_,_,rfl,(k2.step0 k3).trans k35,g5,?_,?_⟩⟩
    ·rw[take_snoc hr,show Zhw ((Zbt P).take i++[(m,pth,s)])=Zhw ((Zbt P).take i)++plS m s by simp[Zhw],Yl]
     exact((i3.mono k4).mono k5).append (i4.mono k5)
    ·rw[take_snoc hr,List.any_append,st]
     simpa using ns
 ·intro σ1 H2 H3 hp k3
  obtain⟨o5,o6,o7,ws,rfl,k2,g2,i2,st⟩:=(hPv _ _ _).mp hp
  rw[ZfI,Yb,Yt]at i2 st
  refine ZtD (CP:=CP) (ws:=ws) (k3.obj _ _ Ya g2) (i2.mono k3) (ZoG fun x hx=>Zh5 ok hx) ht ho hn fun H4 k4=>?_
  have e:Zfa P t old new=(!decide (((none,old):PlN)∈Zhw (Zbt P)) && (!decide (((none,new):PlN)∈Zhw (Zbt P)) && !decide (((some t,new):PlN)∈Zhw (Zbt P)))):=by
   unfold Zfa
   rw[st]; rfl
  show Q _ H4
  rw[← e]
  exact q H4 (k1.step1 ((k2.step0 k3).step0 k4) f1)
end
end M
namespace M
open PySem PySem.Spec PyProof.Rows L2 L2H SlX
local macro_rules | `(tactic| row_readAll n4) => `(tactic| simp only [Zcc, Zcd, Zc7, Zh4, Zce, Zfx, Zc8, Zg6])
local macro_rules | `(tactic| row_readAll gg) => `(tactic| ((try row_readAll go); (try row_readAll n4); (try row_readAll go); (try row_readAll n4); (try row_readAll go)))
def ZoX:List Str:=["target", "old", "new"]
structure RnM where
 t:Str
 o:Str
 n:Str
def RnM.cal(r:RnM)(m x:Str):Str:=if m=r.t∧x=r.o then r.n else x
def Ex.ren(r:RnM)(m:Str):Ex→Ex
 | .int i=>.int i
 | .nm x=>.nm (r.cal m x)
 | .of x a=>.of (r.cal m x) a
 | .bin s a b=>.bin s (a.ren r m) (b.ren r m)
mutual
def Stm.ren(r:RnM)(m:Str):Stm→Stm
 | .set x e=>.set (r.cal m x) (e.ren r m)
 | .del x=>.del (r.cal m x)
 | .shw e=>.shw (e.ren r m)
 | .call e=>.call (e.ren r m)
 | .raise=>.raise
 | .imp t x=>.imp t (r.cal m x)
 | .frm t w x=>.frm t (r.cal t w) (r.cal m x)
 | .star t=>.star t
 | .fn x b=>.fn (r.cal m x) (renL r m b)
 | .ite e b o=>.ite (e.ren r m) (renL r m b) (renL r m o)
 | .tri k b h=>.tri k (renL r m b) (renL r m h)
def renL(r:RnM)(m:Str):List Stm→List Stm
 | []=>[]
 | s :: l=>s.ren r m :: renL r m l
end
theorem Zkk(r:RnM)(m:Str):∀ l:List Stm,renL r m l=l.map (Stm.ren r m)
 | []=>by simp[renL]
 | s :: l=>by simp[renL,Zkk r m l]
def Zjx(H:Hp)(CN a dx:YF)(r:RnM):Prop:=H a=some (.ins CN dx [("target",.str r.t),("old",.str r.o),("new",.str r.n)])
theorem Zjx.k0{H H':Hp}{CN a dx:YF}{r:RnM}(x:Zjx H CN a dx r)(k:Zb [] H H'):Zjx H' CN a dx r:=k.obj _ _ Ya x
section
variable {K:YC} {H H':Hp} {Q:VK} {CN a dx:YF} {r:RnM}
def ZQ(K:YC)(CN:YF):Sp:=fun vs H Q _=>∃ a dx t o n,vs=[.ref a,.str t,.str o,.str n]∧H a=some (.ins CN dx [])∧∀ H',Zjx H' CN a dx ⟨t,o,n⟩→Zb [a] H H'→Q .non H'
def Zay(K:YC)  : TS:=(Xb (sFld K (YU 0) (YU 1) "target")
 (Xb (sFld K (YU 0) (YU 2) "old")
 (sFld K (YU 0) (YU 3) "new")))
def Zfz:List Str:=["self", "target", "old", "new"]
theorem ZdW(T:InsC K CN ZoX)(vs:List V)(H:Hp)(Q:VK)(E:XK)(h:ZQ K CN vs H Q E):Zay K { nx:=fun _ H'=>Q .non H',rt:=Q } (start Zfz vs) H:=by
 obtain⟨a,dx,t,o,n,rfl,ha,q⟩:=h
 show Zay K _ [some (.ref a),some (.str t),some (.str o),some (.str n)] H
 unfold Zay
 row_readAll go
 refine Zou ha T (by decide +kernel) (by simp) fun H1 k1 g1=>?_
 replace g1:H1 a=some (.ins CN dx [("target",.str t)]):=g1
 row_readAll go
 refine Zou g1 T (by decide +kernel) (by simp) fun H2 k2 g2=>?_
 replace g2:H2 a=some (.ins CN dx [("target",.str t),("old",.str o)]):=g2
 row_readAll go
 refine Zou g2 T (by decide +kernel) (by simp) fun H3 k3 g3=>?_
 exact q H3 g3 ((k1.trans k2).trans k3)
def Zk(K:YC)(CN:YF):Sp:=fun vs H Q _=>∃ a dx r m x,vs=[.ref a,.str m,.str x]∧Zjx H CN a dx r∧Q (.str (r.cal m x)) H
def Zbg(K:YC)  : TS:=(Xj (tIf (tAnd (Xe (tOp (ZbB K) (YU 1) (Xi K (YU 0) "target"))) (Xe (tOp (ZbB K) (YU 2) (Xi K (YU 0) "old")))) (Xi K (YU 0) "new") (YU 2)))
def Zf8:List Str:=["self", "module", "name"]
theorem Ze0(T:InsC K CN ZoX)(vs:List V)(H:Hp)(Q:VK)(E:XK)(h:Zk K CN vs H Q E):Zbg K { nx:=fun _ H'=>Q .non H',rt:=Q } (start Zf8 vs) H:=by
 obtain⟨a,dx,r,m,x,rfl,ha,q⟩:=h
 show Zbg K _ [some (.ref a),some (.str m),some (.str x)] H
 unfold Zbg
 have ha:H a=some (.ins CN dx [("target",.str r.t),("old",.str r.o),("new",.str r.n)]):=ha
 unfold RnM.cal at q
 row_readAll go
 by_cases h1:m=r.t
 ·rw[decide_eq_true h1]
  row_readAll go
  by_cases h2:x=r.o
  ·rw[decide_eq_true h2]
   rw[if_pos ⟨h1,h2⟩]at q
   row_readAll go
   exact q
  ·rw[decide_eq_false h2]
   rw[if_neg fun z=>h2 z.2]at q
   row_readAll go
   exact q
 ·rw[decide_eq_false h1]
  rw[if_neg fun z=>h1 z.1]at q
  row_readAll go
  exact q
theorem Zkl{vs:List V}{E:XK}{m x:Str}(h:Zjx H CN a dx r)(e:vs=[.ref a,.str m,.str x])(q:Q (.str (r.cal m x)) H):Zk K CN vs H Q E:=⟨a,dx,r,m,x,e,h,q⟩
def Zh(K:YC)(CN:YF)(n:Nat):Sp:=fun vs H Q _=>∃ a dx r m v e,vs=[.ref a,.str m,v]∧Zjx H CN a dx r∧Im K H v (Ex.d e)∧e.dep < n∧∀ v' H',Zb [] H H'→Im K H' v' (e.ren r m).d→Q v' H'
def ZB(K:YC)(CN:YF)(sp:Sp):TS:=(Xb (Xk (tB (Xo (Zo K) [] E0 (YV (YU 2) Y1))) (Xj (YU 2)) Xq)
 (Xb (Xk (Xe (tOp (Zi9 K) (tOp (rIx K) (YU 2) (tC (.int 0))) (Zf K (YV (tC (.str "name")) (YV (tC (.str "of")) Y1))))) (Xj (Zf K (YV (tOp (rIx K) (YU 2) (tC (.int 0))) (YV (Xl CN "called" (Zk K CN) [] E0 (YU 0) (YV (YU 1) (YV (tOp (rIx K) (YU 2) (tC (.int 1))) Y1))) (StX.tStar K (L2.tSl (rSlA K) (YU 2) (tPart (tC (.int 2))) tNoPart) Y1))))) Xq)
 (Xj (Zf K (YV (tOp (rIx K) (YU 2) (tC (.int 0))) (YV (Xl CN "expression" sp [] E0 (YU 0) (YV (YU 1) (YV (tOp (rIx K) (YU 2) (tC (.int 1))) Y1))) (YV (Xl CN "expression" sp [] E0 (YU 0) (YV (YU 1) (YV (tOp (rIx K) (YU 2) (tC (.int 2))) Y1))) Y1)))))))
def ZeG:List Str:=["self", "module", "expr"]
theorem ZoH{te:TE}{t:TA}{σ:L2.St}{R:List V→Hp→Prop}:StX.tStar K te t σ H R=te σ H fun x H1=>∃ p xs,x=V.ref p∧(SqT K H1 p xs∨SqL K H1 p xs)∧t σ H1 fun ys H2=>R (xs++ys) H2:=rfl
theorem Zdb(T:InsC K CN ZoX){n:Nat}(vs:List V)(H:Hp)(Q:VK)(E:XK)(h:Zh K CN (n + 1) vs H Q E):ZB K CN (Zh K CN n) { nx:=fun _ H'=>Q .non H',rt:=Q } (start ZeG vs) H:=by
 obtain⟨a,dx,r,m,v,e,rfl,ha,hi,hd,q⟩:=h
 show ZB K CN _ _ [some (.ref a),some (.str m),some v] H
 have sz:=Z3
 have ha0:H a=some (.ins CN dx [("target",.str r.t),("old",.str r.o),("new",.str r.n)]):=ha
 have atom:∀ (w0 x:Str) (rest:List Str) (c:YF) (ds:List PyData),Im K H (.ref c) (.tuple ds)→SqT K H c (V.str w0 :: V.str x :: rest.map V.str)→(w0 = "name" ∨ w0 = "of")→rest.length ≤ 1 →
   (∀ v' H',Zb [] H H'→Im K H' v' (.tuple (.str w0 :: .str (r.cal m x) :: rest.map .str))→Q v' H') →
   ZB K CN (Zh K CN n) { nx:=fun _ H'=>Q .non H',rt:=Q } [some (.ref a),some (.str m),some (.ref c)] H:=by
  intro w0 x rest c ds i0 sT hw hr q
  unfold ZB
  row_readAll go
  refine Zgn sT (atI_nat (j:=0) rfl) ?_
  refine Zj (by row_readAll ln) fun c1 H1 f1 k1 s1=>?_
  refine Zk6 s1 ?_
  rw[show(decide (w0 = "name") || decide (w0 = "of"))=true by rcases hw with rfl | rfl <;> rfl]
  row_readAll go
  have sT1:=k1.sqT sT
  refine Zgn sT1 (atI_nat (j:=0) rfl) ?_
  row_readAll go
  refine⟨a,dx,_,rfl,k1.obj _ _ Ya ha0,rfl,?_⟩
  row_readAll go
  refine Zgn sT1 (atI_nat (j:=1) rfl) ?_
  refine Zkl (Zjx.k0 ha k1) rfl ?_
  simp only[ZoH]
  row_readAll gg
  refine ZmH sT1 fun p6 H6 k6 s6=>?_
  rw[show cutV (V.str w0 :: V.str x :: rest.map V.str) (some 2) none=rest.map V.str from ZlR _ _ _]at s6
  refine⟨_,_,rfl,.inl s6,?_⟩
  row_readAll go
  refine Zj (by simp only[Yd,Yb]; omega) fun c7 H7 f7 k7 s7=>?_
  refine q _ H7 ((k1.trans k6).trans k7) (.tup s7 (.cons (.str _) (.cons (.str _) ?_)))
  have:∀ l:List Str,ImAll K H7 (l.map V.str) (l.map PyData.str):=by
   intro l
   induction l with
   | nil=>exact .nil
   | cons z r ih=>exact .cons (.str _) ih
  exact this rest
 cases e with
 | int i =>
   cases hi
   unfold ZB
   row_readAll go
   exact q _ _ (Zb.refl _ _) (.int _)
 | nm x =>
   have hi0:=hi
   obtain⟨c,xs,rfl,hs,iT⟩:=hi.of_tup
   obtain⟨v0,r',rfl,h0,iT⟩:=iT.of_cons
   obtain⟨v1,r',rfl,h1,iT⟩:=iT.of_cons
   cases iT.of_nil; cases h0.of_str; cases h1.of_str
   exact atom "name" x [] c _ hi0 hs (.inl rfl) (by simp) fun v' H' k' i'=>q v' H' k' i'
 | of x y =>
   have hi0:=hi
   obtain⟨c,xs,rfl,hs,iT⟩:=hi.of_tup
   obtain⟨v0,r',rfl,h0,iT⟩:=iT.of_cons
   obtain⟨v1,r',rfl,h1,iT⟩:=iT.of_cons
   obtain⟨v2,r',rfl,h2,iT⟩:=iT.of_cons
   cases iT.of_nil; cases h0.of_str; cases h1.of_str; cases h2.of_str
   exact atom "of" x [y] c _ hi0 hs (.inr rfl) (by simp) fun v' H' k' i'=>q v' H' k' i'
 | bin s l r2 =>
   obtain⟨c,xs,rfl,hs,iT⟩:=hi.of_tup
   obtain⟨v0,r',rfl,h0,iT⟩:=iT.of_cons
   obtain⟨v1,r',rfl,h1,iT⟩:=iT.of_cons
   obtain⟨v2,r',rfl,h2,iT⟩:=iT.of_cons
   cases iT.of_nil; cases h0.of_str
   have dl:l.dep < n:=by simp only[Ex.dep]at hd; omega
   have dr:r2.dep < n:=by simp only[Ex.dep]at hd; omega
   unfold ZB
   row_readAll go
   try refine Zgn hs (atI_nat (j:=0) rfl) ?_
   refine Zj (by row_readAll ln) fun c1 H1 f1 k1 s1=>?_
   refine Zk6 s1 ?_
   rw[show(decide ((if s=true then("sum" : Str)else "less") = "name") || decide ((if s=true then("sum" : Str)else "less") = "of"))=false by cases s <;> rfl]
   row_readAll go
   have sT1:=k1.sqT hs
   try refine Zgn sT1 (atI_nat (j:=0) rfl) ?_
   row_readAll go
   refine⟨a,dx,_,rfl,k1.obj _ _ Ya ha0,rfl,?_⟩
   row_readAll go
   try refine Zgn sT1 (atI_nat (j:=1) rfl) ?_
   refine⟨a,dx,r,m,v1,l,rfl,Zjx.k0 ha k1,h1.mono k1,dl,fun w1 H2 k2 i2=>?_⟩
   row_readAll go
   refine⟨a,dx,_,rfl,(k1.trans k2).obj _ _ Ya ha0,rfl,?_⟩
   row_readAll go
   try refine Zgn (k2.sqT sT1) (atI_nat (j:=2) rfl) ?_
   refine⟨a,dx,r,m,v2,r2,rfl,Zjx.k0 (Zjx.k0 ha k1) k2,(h2.mono k1).mono k2,dr,fun w2 H3 k3 i3=>?_⟩
   row_readAll go
   refine Zj (by row_readAll ln) fun c7 H7 f7 k7 s7=>?_
   exact q _ H7 (((k1.trans k2).trans k3).trans k7) (.tup s7 (.cons (.str _) (.cons ((i2.mono k3).mono k7) (.cons (i3.mono k7) .nil))))
end
local macro_rules | `(tactic| row_readAll n4) => `(tactic| simp only [Zcc, Zcd, Zc7, Zh4, Zce, Zfx, Zc8, Zg6])
local macro_rules | `(tactic| row_readAll gg) => `(tactic| ((try row_readAll go); (try row_readAll n4); (try row_readAll go); (try row_readAll n4); (try row_readAll go)))
section
variable {K:YC} {H H':Hp} {Q:VK} {CN a dx:YF} {r:RnM}
def Zy(K:YC)(CN:YF)(n:Nat):Sp:=fun vs H Q _=>∃ a dx r m v b,vs=[.ref a,.str m,v]∧Zjx H CN a dx r∧Im K H v (.tuple (blkD b))∧wfL b∧cntL b ≤ 1000∧depL b < n∧∀ v' H',Zb [] H H'→Im K H' v' (.tuple (blkD (renL r m b)))→Q v' H'
def ZC(K:YC)(CN:YF)(n:Nat):Sp:=fun vs H Q _=>∃ a dx r m v s,vs=[.ref a,.str m,v]∧Zjx H CN a dx r∧Im K H v (Stm.d s)∧s.wf∧s.cnt ≤ 1000∧s.dep < n∧∀ v' H',Zb [] H H'→Im K H' v' (s.ren r m).d→Q v' H'
def Zap(K:YC)(CN:YF)(sp:Sp):TS:=(Xb (Zil K (YU 2) [(some [.lit "set",.cap 3,.cap 4],(Xj (Zf K (YV (tC (.str "set")) (YV (Xl CN "called" (Zk K CN) [] E0 (YU 0) (YV (YU 1) (YV (YU 3) Y1))) (YV (Xl CN "expression" (Zh K CN 5) [] E0 (YU 0) (YV (YU 1) (YV (YU 4) Y1))) Y1)))))),
  (some [.lit "del",.cap 3],(Xj (Zf K (YV (tC (.str "del")) (YV (Xl CN "called" (Zk K CN) [] E0 (YU 0) (YV (YU 1) (YV (YU 3) Y1))) Y1))))),
  (some [.lit "\x69mport",.cap 5,.cap 3],(Xj (Zf K (YV (tC (.str "\x69mport")) (YV (YU 5) (YV (Xl CN "called" (Zk K CN) [] E0 (YU 0) (YV (YU 1) (YV (YU 3) Y1))) Y1)))))),
  (some [.lit "from",.cap 5,.cap 6,.cap 3],(Xj (Zf K (YV (tC (.str "from")) (YV (YU 5) (YV (Xl CN "called" (Zk K CN) [] E0 (YU 0) (YV (YU 5) (YV (YU 6) Y1))) (YV (Xl CN "called" (Zk K CN) [] E0 (YU 0) (YV (YU 1) (YV (YU 3) Y1))) Y1))))))),
  (some [.lit "def",.cap 3,.cap 7],(Xj (Zf K (YV (tC (.str "def")) (YV (Xl CN "called" (Zk K CN) [] E0 (YU 0) (YV (YU 1) (YV (YU 3) Y1))) (YV (Xl CN "rows" sp [] E0 (YU 0) (YV (YU 1) (YV (YU 7) Y1))) Y1)))))),
  (some [.lit "if",.cap 4,.cap 7,.cap 5],(Xj (Zf K (YV (tC (.str "if")) (YV (Xl CN "expression" (Zh K CN 5) [] E0 (YU 0) (YV (YU 1) (YV (YU 4) Y1))) (YV (Xl CN "rows" sp [] E0 (YU 0) (YV (YU 1) (YV (YU 7) Y1))) (YV (Xl CN "rows" sp [] E0 (YU 0) (YV (YU 1) (YV (YU 5) Y1))) Y1))))))),
  (some [.lit "try",.cap 8,.cap 7,.cap 9],(Xj (Zf K (YV (tC (.str "try")) (YV (YU 8) (YV (Xl CN "rows" sp [] E0 (YU 0) (YV (YU 1) (YV (YU 7) Y1))) (YV (Xl CN "rows" sp [] E0 (YU 0) (YV (YU 1) (YV (YU 9) Y1))) Y1))))))),
  (some [.lit "star",.cap 5],(Xj (YU 2))),
  (some [.cap 10,.cap 4],(Xj (Zf K (YV (YU 10) (YV (Xl CN "expression" (Zh K CN 5) [] E0 (YU 0) (YV (YU 1) (YV (YU 4) Y1))) Y1)))))])
 (Xj (YU 2)))
def Ze1:List Str:=["self", "module", "row", "name", "expr", "other", "wanted", "inner", "kind", "handler", "word"]
def ZbO(K:YC)(CN:YF)(sp:Sp):TS:=(Xj (tThen (tLc (Zg4 K (YU 2)) (Y6 3) tYes (Xl CN "statement" sp [] E0 (YU 0) (YV (YU 1) (YV (YU 3) Y1))) [3]) (kTup K)))
def Zha:List Str:=["self", "module", "block", "row"]
theorem ZlZ:∀ {b:List Stm} {i:Nat} {s:Stm},b[i]? = some s→wfL b→s.wf:=fun e h=>(ZdE _).mp h _ (Yj e)
theorem Zh7:∀ {b:List Stm} {i:Nat} {s:Stm},b[i]? = some s→s.cnt ≤ cntL b
 | [],_,s,e=>by simp at e
 | t :: l,0,s,e=>by simp at e; subst e; simp only[cntL]; omega
 | t :: l,i + 1,s,e=>by
   rw[List.getElem?_cons_succ]at e
   have:=Zh7 e
   simp only[cntL]; omega
theorem Zh8:∀ b:List Stm,b.length ≤ cntL b
 | []=>by simp[cntL]
 | t :: l=>by
   have:=Zh8 l
   have h1 : 1 ≤ t.cnt:=by cases t <;> simp[Stm.cnt]
   simp only[cntL,Yd]; omega
theorem ZfJ{n:Nat}(vs:List V)(H:Hp)(Q:VK)(E:XK)(h:Zy K CN n vs H Q E):ZbO K CN (ZC K CN n) { nx:=fun _ H'=>Q .non H',rt:=Q } (start Zha vs) H:=by
 obtain⟨a,dx,r,m,v,b,rfl,ha,hi,hw,hc,hd,q⟩:=h
 show ZbO K CN _ _ [some (.ref a),some (.str m),some v,none] H
 unfold ZbO
 have sz:=Z3
 obtain⟨c,xs,rfl,sT,iT⟩:=hi.of_tup
 have lb:=Zh8 b
 have lx:=iT.length
 rw[Z_,Yb]at lx
 row_readAll go
 refine .inr ⟨⟨_,sT⟩,?_⟩
 refine Zlb (S:=[]) (Wk.tup sT) (fun D i H2=>Zb [] H H2∧∃ zs,H2 D=some (.lst zs)∧ImAll K H2 zs ((b.take i).map fun s=>(s.ren r m).d)) (fun _ _ _ p=>p.1) (fun D H2 _ k g=>⟨k,[],g,.nil⟩) ?_ ?_
 ·rintro D6 i x7 H7 H8 f7 hx ⟨k7,zs,g7,i7⟩ k8
  obtain⟨dd,hdd,iy⟩:=iT.get hx
  rw[Z_,Ym,Option.map_eq_some_iff]at hdd
  obtain⟨s,hs,rfl⟩:=hdd
  have lz:=i7.length
  rw[Yb,Yu]at lz
  have k78:=k7.trans k8
  row_readAll go
  refine⟨a,dx,_,rfl,k78.obj _ _ Ya ha,rfl,?_⟩
  row_readAll go
  have c1:=Zh7 hs
  have d1:=Zgd hs
  refine⟨a,dx,r,m,_,s,rfl,ha.k0 k78,iy.mono k78,ZlZ hs hw,by omega,by omega,fun v9 H9 k9 i9=>?_⟩
  have li:=Zdl hs
  refine lay (k9.obj _ _ Ya (k8.obj _ _ Ya g7)) (by omega) fun H10 k10 g10=>⟨(k78.trans k9).step1 k10 f7,_,g10,?_⟩
  rw[take_snoc hs,Yl]
  exact(((i7.mono k8).mono k9).mono k10).append (.cons (i9.mono k10) .nil)
 ·rintro D6 H7 f7 ⟨k7,zs,g7,i7⟩
  rw[lx,Yt]at i7
  row_readAll go
  refine ZhD (SqL.of g7) fun l H8 f8 k8 s8=>?_
  refine q _ H8 (k7.trans k8) (.tup s8 ?_)
  rw[Zkk,Z_,Yx]
  exact i7.mono k8
theorem Zsr{vs:List V}{E:XK}{m:Str}{v:V}{e:Ex}(h:Zjx H CN a dx r)(ev:vs=[.ref a,.str m,v])(i:Im K H v e.d)(w:e.wf 3)(q:∀ v' H',Zb [] H H'→Im K H' v' (e.ren r m).d→Q v' H'):Zh K CN 5 vs H Q E :=
 ⟨a,dx,r,m,v,e,ev,h,i,by have:=w.dep; omega,q⟩
theorem Zss{vs:List V}{E:XK}{m:Str}{v:V}{b:List Stm}{n:Nat}(h:Zjx H CN a dx r)(ev:vs=[.ref a,.str m,v])(i:Im K H v (.tuple (blkD b)))(w:wfL b)(c:cntL b ≤ 1000)(d:depL b < n)(q:∀ v' H',Zb [] H H'→Im K H' v' (.tuple (blkD (renL r m b)))→Q v' H'):Zy K CN n vs H Q E :=
 ⟨a,dx,r,m,v,b,ev,h,i,w,c,d,q⟩
local macro_rules | `(tactic| row_readAll mm) => `(tactic| (refine ⟨_, _, _, rfl, (by row_readAll ob), rfl, ?_⟩; row_readAll go))
local macro_rules | `(tactic| row_readAll ca) => `(tactic| (row_readAll mm; (refine Zkl (by row_readAll ob) rfl ?_); row_readAll go))
local macro_rules | `(tactic| row_readAll ex) => `(tactic| (row_readAll mm; (refine Zsr (by row_readAll ob) rfl (by row_readAll im) (by assumption) fun _ _ _ _ => ?_); row_readAll go))
local macro_rules | `(tactic| row_readAll ro) => `(tactic| (row_readAll mm; (refine Zss (by row_readAll ob) rfl (by row_readAll im) (by assumption) (by omega) (by omega) fun _ _ _ _ => ?_); row_readAll go))
local macro_rules | `(tactic| row_readAll ia) => `(tactic| first | exact ImAll.nil | exact ImAll.cons (.str _) (by row_readAll ia) | exact ImAll.cons (by row_readAll im) (by row_readAll ia))
theorem Zdt{n:Nat}(vs:List V)(H:Hp)(Q:VK)(E:XK)(h:ZC K CN (n + 1) vs H Q E):Zap K CN (Zy K CN n) { nx:=fun _ H'=>Q .non H',rt:=Q } (start Ze1 vs) H:=by
 obtain⟨a,dx,r,m,v,s,rfl,ha,hi,hw,hc,hd,q⟩:=h
 show Zap K CN _ _ [some (.ref a),some (.str m),some v,none,none,none,none,none,none,none,none] H
 unfold Zap
 have sz:=Z3
 have ha0:H a=some (.ins CN dx [("target",.str r.t),("old",.str r.o),("new",.str r.n)]):=ha
 obtain⟨c,xs,rfl,hs,hv⟩:=hi.stm
 cases s <;> simp only[Stm.vs]at hv <;> simp only[Stm.wf]at hw <;> simp only[Stm.dep]at hd <;> simp only[Stm.cnt]at hc <;> simp only[Stm.ren,Stm.d]at q
 case set =>
  obtain⟨v2,rfl,h2⟩:=hv
  obtain⟨w1,w2⟩:=hw
  row_readAll go
  row_readAll ca
  row_readAll ex
  refine Zj (by row_readAll ln) fun _ _ _ _ _=>?_
  exact q _ _ (by row_readAll kp) (.tup (by row_readAll sq) (by row_readAll ia))
 case shw =>
  obtain⟨v2,rfl,h2⟩:=hv
  row_readAll go
  row_readAll ex
  refine Zj (by row_readAll ln) fun _ _ _ _ _=>?_
  exact q _ _ (by row_readAll kp) (.tup (by row_readAll sq) (by row_readAll ia))
 case call =>
  obtain⟨v2,rfl,h2⟩:=hv
  row_readAll go
  row_readAll ex
  refine Zj (by row_readAll ln) fun _ _ _ _ _=>?_
  exact q _ _ (by row_readAll kp) (.tup (by row_readAll sq) (by row_readAll ia))
 case fn =>
  obtain⟨v2,rfl,h2⟩:=hv
  obtain⟨w1,w2⟩:=hw
  row_readAll go
  row_readAll ca
  row_readAll ro
  refine Zj (by row_readAll ln) fun _ _ _ _ _=>?_
  exact q _ _ (by row_readAll kp) (.tup (by row_readAll sq) (by row_readAll ia))
 case ite =>
  obtain⟨v1,v2,v3,rfl,h1,h2,h3⟩:=hv
  obtain⟨w1,w2,w3⟩:=hw
  row_readAll go
  row_readAll ex
  row_readAll ro
  row_readAll ro
  refine Zj (by row_readAll ln) fun _ _ _ _ _=>?_
  exact q _ _ (by row_readAll kp) (.tup (by row_readAll sq) (by row_readAll ia))
 case tri =>
  obtain⟨v2,v3,rfl,h2,h3⟩:=hv
  obtain⟨w1,w2,w3⟩:=hw
  row_readAll go
  row_readAll ro
  row_readAll ro
  refine Zj (by row_readAll ln) fun _ _ _ _ _=>?_
  exact q _ _ (by row_readAll kp) (.tup (by row_readAll sq) (by row_readAll ia))
 case del =>
  subst hv
  row_readAll go
  row_readAll ca
  refine Zj (by row_readAll ln) fun _ _ _ _ _=>?_
  exact q _ _ (by row_readAll kp) (.tup (by row_readAll sq) (by row_readAll ia))
 case raise =>
  subst hv
  row_readAll go
  exact q _ _ (Zb.refl _ _) (.tup hs (by row_readAll ia))
 case imp =>
  subst hv
  row_readAll go
  row_readAll ca
  refine Zj (by row_readAll ln) fun _ _ _ _ _=>?_
  exact q _ _ (by row_readAll kp) (.tup (by row_readAll sq) (by row_readAll ia))
 case frm =>
  subst hv
  row_readAll go
  row_readAll ca
  row_readAll ca
  refine Zj (by row_readAll ln) fun _ _ _ _ _=>?_
  exact q _ _ (by row_readAll kp) (.tup (by row_readAll sq) (by row_readAll ia))
 case star =>
  subst hv
  row_readAll go
  exact q _ _ (Zb.refl _ _) (.tup hs (by row_readAll ia))
end
local macro_rules | `(tactic| row_readAll n4) => `(tactic| simp only [Zcc, Zcd, Zc7, Zh4, Zce, Zfx, Zc8, Zg6])
local macro_rules | `(tactic| row_readAll gg) => `(tactic| ((try row_readAll go); (try row_readAll n4); (try row_readAll go); (try row_readAll n4); (try row_readAll go)))
def ZL(K:YC)(C:YF):Sp:=fun vs H Q _=>∃ a P fp,vs=[.ref a]∧Zbs K H C a P fp∧∀ p H',H p=none→Zb [] H H'→H' p=some (.lst ((P.map (·.1)).map V.str))→Q (.ref p) H'
def Zaq(K:YC)  : TS:=(Xj (tCB (ZhC K) (YV (SlX.tSl K (YU 0) "own_names") Y1)))
def Ze2:List Str:=["self"]
theorem Zdu{K:YC}{C p1 p2:YF}(T:Zjt K C p1 p2)(vs:List V)(H:Hp)(Q:VK)(E:XK)(h:ZL K C vs H Q E):Zaq K { nx:=fun _ H'=>Q .non H',rt:=Q } (start Ze2 vs) H:=by
 obtain⟨a,P,fp,rfl,x,q⟩:=h
 show Zaq K _ [some (.ref a)] H
 unfold Zaq
 obtain⟨dx,nl,d,rfl,h1,h2,h3,h4⟩:=x.ex
 row_readAll go
 refine⟨a,C,dx,p1,_,_,_,rfl,h1,T.c,T.s1,rfl,?_⟩
 refine Zj6 (.inl (SqL.of h3)) fun l H' f k g=>?_
 exact q l H' f k g
def Zg2(r:RnM)(P:Prg):Prg:=P.map fun x=>(x.1,renL r x.1 x.2)
theorem ZiW(r:RnM)(P:Prg):(Zg2 r P).map (·.1)=P.map (·.1):=by unfold Zg2; rw[Yx]; rfl
theorem RnM.cal_ok{r:RnM}(h:okN r.n){m x:Str}(hx:okN x):okN (r.cal m x):=by
 unfold RnM.cal
 split
 ·exact h
 ·exact hx
theorem Ex.ren_wf{r:RnM}(h:okN r.n){m:Str}:∀ {e:Ex} {d:Nat},e.wf d→(e.ren r m).wf d:=by
 intro e
 induction e with
 | int i=>intro d w; cases d <;> exact w
 | nm x=>intro d w; cases d <;> exact r.cal_ok h w
 | of x a=>intro d w; cases d <;> exact⟨r.cal_ok h w.1,w.2⟩
 | bin s a b i1 i2 =>
   intro d w
   cases d with
   | zero=>exact w.elim
   | succ d=>exact⟨i1 w.1,i2 w.2⟩
mutual
theorem Stm.ren_wf{r:RnM}(h:okN r.n)(m:Str):∀ {s:Stm},s.wf→(s.ren r m).wf
 | .set n e,w=>by simp only[Stm.wf]at w; simp only[Stm.ren,Stm.wf]; exact⟨r.cal_ok h w.1,Ex.ren_wf h w.2⟩
 | .del n,w=>by simp only[Stm.wf]at w; simp only[Stm.ren,Stm.wf]; exact r.cal_ok h w
 | .shw e,w=>by simp only[Stm.wf]at w; simp only[Stm.ren,Stm.wf]; exact Ex.ren_wf h w
 | .call e,w=>by simp only[Stm.wf]at w; simp only[Stm.ren,Stm.wf]; exact Ex.ren_wf h w
 | .raise,w=>by simp only[Stm.ren]; exact w
 | .imp t n,w=>by simp only[Stm.wf]at w; simp only[Stm.ren,Stm.wf]; exact⟨w.1,r.cal_ok h w.2⟩
 | .frm t w' n,w=>by simp only[Stm.wf]at w; simp only[Stm.ren,Stm.wf]; exact⟨w.1,r.cal_ok h w.2.1,r.cal_ok h w.2.2⟩
 | .star t,w=>by simp only[Stm.ren]; exact w
 | .fn n b,w=>by simp only[Stm.wf]at w; simp only[Stm.ren,Stm.wf]; exact⟨r.cal_ok h w.1,renL_wf h m w.2⟩
 | .ite e b o,w=>by simp only[Stm.wf]at w; simp only[Stm.ren,Stm.wf]; exact⟨Ex.ren_wf h w.1,renL_wf h m w.2.1,renL_wf h m w.2.2⟩
 | .tri k b o,w=>by simp only[Stm.wf]at w; simp only[Stm.ren,Stm.wf]; exact⟨w.1,renL_wf h m w.2.1,renL_wf h m w.2.2⟩
theorem renL_wf{r:RnM}(h:okN r.n)(m:Str):∀ {b:List Stm},wfL b→wfL (renL r m b)
 | [],w=>by simp only[renL]; exact w
 | s :: l,w=>by simp only[wfL]at w; simp only[renL,wfL]; exact⟨Stm.ren_wf h m w.1,renL_wf h m w.2⟩
end
mutual
theorem Stm.ren_dep(r:RnM)(m:Str):∀ s:Stm,(s.ren r m).dep=s.dep
 | .set .. | .del .. | .shw .. | .call .. | .raise | .imp .. | .frm .. | .star ..=>by simp only[Stm.ren,Stm.dep]
 | .fn n b=>by simp only[Stm.ren,Stm.dep,renL_dep r m b]
 | .ite e b o=>by simp only[Stm.ren,Stm.dep,renL_dep r m b,renL_dep r m o]
 | .tri k b o=>by simp only[Stm.ren,Stm.dep,renL_dep r m b,renL_dep r m o]
theorem renL_dep(r:RnM)(m:Str):∀ b:List Stm,depL (renL r m b)=depL b
 | []=>by simp only[renL]
 | s :: l=>by simp only[renL,depL,Stm.ren_dep r m s,renL_dep r m l]
end
mutual
theorem Stm.ren_cnt(r:RnM)(m:Str):∀ s:Stm,(s.ren r m).cnt=s.cnt
 | .set .. | .del .. | .shw .. | .call .. | .raise | .imp .. | .frm .. | .star ..=>by simp only[Stm.ren,Stm.cnt]
 | .fn n b=>by simp only[Stm.ren,Stm.cnt,renL_cnt r m b]
 | .ite e b o=>by simp only[Stm.ren,Stm.cnt,renL_cnt r m b,renL_cnt r m o]
 | .tri k b o=>by simp only[Stm.ren,Stm.cnt,renL_cnt r m b,renL_cnt r m o]
theorem renL_cnt(r:RnM)(m:Str):∀ b:List Stm,cntL (renL r m b)=cntL b
 | []=>by simp only[renL]
 | s :: l=>by simp only[renL,cntL,Stm.ren_cnt r m s,renL_cnt r m l]
end
mutual
theorem ZoI(r:RnM)(m:Str):∀ (s:Stm) (p:Pth),(s.ren r m).sub p=(s.sub p).map fun x=>(x.1,x.2.ren r m)
 | .set ..,p | .del ..,p | .shw ..,p | .call ..,p | .raise,p | .imp ..,p | .frm ..,p | .star ..,p=>by simp only[Stm.ren,Stm.sub,List.map_nil]
 | .fn n b,p=>by simp only[Stm.ren,Stm.sub,walk_ren r m b]
 | .ite e b o,p=>by simp only[Stm.ren,Stm.sub,walk_ren r m b,walk_ren r m o,Yl]
 | .tri k b o,p=>by simp only[Stm.ren,Stm.sub,walk_ren r m b,walk_ren r m o,Yl]
theorem walk_ren(r:RnM)(m:Str):∀ (b:List Stm) (p:Pth) (i:Nat),walkL p i (renL r m b)=(walkL p i b).map fun x=>(x.1,x.2.ren r m)
 | [],p,i=>by simp only[renL,walkL,List.map_nil]
 | s :: l,p,i=>by simp only[renL,walkL,Yr,Yl,ZoI r m s,walk_ren r m l]
end
theorem Zcr.ren{r:RnM}(h:okN r.n){m:Str}{b:List Stm}(ok:Zcr b):Zcr (renL r m b):=by
 refine⟨renL_wf h m ok.wf,by rw[renL_dep]; exact ok.dep,by rw[renL_cnt]; exact ok.cnt,fun x hx=>?_⟩
 rw[walk_ren]at hx
 obtain⟨y,hy,rfl⟩:=Yq.mp hx
 exact ok.pth y hy
theorem Zbm.ren{r:RnM}(h:okN r.n){P:Prg}(ok:Zbm P):Zbm (Zg2 r P):=by
 refine⟨by rw[ZiW]; exact ok.nd,by unfold Zg2; rw[Yb]; exact ok.few,fun x hx=>?_,fun x hx=>?_⟩
 ·obtain⟨y,hy,rfl⟩:=Yq.mp hx
  exact ok.nm y hy
 ·obtain⟨y,hy,rfl⟩:=Yq.mp hx
  exact(ok.blk y hy).ren h
theorem ZgR(r:RnM):∀ P:Prg,Zbt (Zg2 r P)=(Zbt P).map fun x=>(x.1,x.2.1,x.2.2.ren r x.1)
 | []=>rfl
 | x :: l=>by
   have:=ZgR r l
   unfold Zbt Zg2 at this ⊢
   rw[Yr,Yz,Yz,Yl,this,walk_ren,Yx,Yx]
   rfl
section
variable {K:YC} {H:Hp} {Q:VK} {CP CN p1 p2 pr:YF} {P:Prg} {pf:List YF} {m old new:Str} {D:Ends}
def ZgS(K:YC)(CP CN:YF):TS:=(Xb (Xm (tMake CN (ZQ K CN) [] E0 (YV (YU 1) (YV (YU 2) (YV (YU 3) Y1)))) (Y6 4))
 (Xj (tMake CP (Zi K CP) [] E0 (YV (tDc (Zg4 K (tMethSl CP (ZL K CP) E0 (YU 0) Y1)) (Y6 5) tYes (YU 5) (Xl CN "rows" (Zy K CN 6) [] E0 (YU 4) (YV (YU 5) (YV (tOp (ZoP CP (Zm K CP) E0) (YU 0) (YU 5)) Y1))) [5]) Y1))))
def ZiX:List Str:=["program", "module", "old", "new", "renamer", "name"]
def ZiY(K:YC)(CP CN CU CI CC:YF)(W:WX):TS:=(Xb (Xm (tMake CN (ZQ K CN) [] E0 (YV (YU 1) (YV (YU 2) (YV (YU 3) Y1)))) (Y6 4))
 (Xj (tMake CP (Zi K CP) [] E0 (YV (tDc (Zg4 K (tMethSl CP (ZL K CP) E0 (YU 0) Y1)) (Y6 5) tYes (YU 5) (Xl CN "rows" (Zy K CN 6) [] E0 (YU 4) (YV (YU 5) (YV (tOp (ZoP CP (Zm K CP) E0) (YU 0) (YU 5)) Y1))) [5]) Y1))))
def ZfZ(K:YC)(CP CN CU CI CC:YF)(W:WX):TS:=(Xb (Xk (tNot (tB (Xo (Zby K CP) [] E0 (YV (YU 0) (YV (YU 1) (YV (YU 2) (YV (YU 3) Y1))))))) (fun _ σ H=>W (.ref CC) none σ H) Xq)
 (ZiY K CP CN CU CI CC W))
def Zf0(K:YC)(CP CN CU CI CC:YF)(W:WX):TS:=(Xb (Xk (Xe (tOp (ZbB K) (YU 2) (YU 3))) (Xj (YU 0)) Xq)
 (ZfZ K CP CN CU CI CC W))
def Zf1(K:YC)(CP CN CU CI CC:YF)(W:WX):TS:=(Xb (Xk (tNot (tB (Xo (ZO K) [] E0 (YV (YU 3) Y1)))) (fun _ σ H=>W (.ref CI) none σ H) Xq)
 (Zf0 K CP CN CU CI CC W))
def ZcQ(K:YC)(CP CN CU CI CC:YF)(W:WX):TS:=(Xb (Xk (Xe (tOp (Zji CP (ZK K CP) E0) (YU 1) (YU 0))) (fun _ σ H=>ZrY CU ["module"] (YV (YU 1) Y1) σ H fun cls d H1=>W cls d σ H1) Xq)
 (Zf1 K CP CN CU CI CC W))
theorem ZtE{v5:Option V}{v4:Option V}(xp:Zbs K H CP pr P pf)(ok:Zbm P)(hn:okN new)
  (q:∀ a fp H',Zbs K H' CP a (Zas (Zg2 ⟨m,old,new⟩ P)) fp→(∀ b∈fp,H b=none)→Zb [] H H'→D.rt (.ref a) H') :
  ZgS K CP CN D [some (.ref pr),some (.str m),some (.str old),some (.str new),v4,v5] H:=by
 unfold ZgS
 have sz:=Z3
 row_readAll go
 intro o do' fo fdo ndo
 have kn:Zb [] H (upd (upd H do' (.own o)) o (.ins CN do' [])):=(Zb.new fdo).trans (Zb.new (by rw[upd_ne (Ne.symm ndo)]; exact fo))
 have ho:upd (upd H do' (.own o)) o (.ins CN do' []) o=some (.ins CN do' []):=Y_
 generalize upd (upd H do' (.own o)) o (.ins CN do' [])=H1 at kn ho ⊢
 refine⟨o,do',m,old,new,rfl,ho,fun H2 rn2 k2=>⟨rfl,?_⟩⟩
 have k02:Zb [] H H2:=kn.step1 k2 fo
 have xp2:=xp.k0 k02
 obtain⟨dxp,nlp,dp,ef,hslt,_,_,_⟩:=xp2.ex
 row_readAll gg
 refine⟨pr,dxp,_,rfl,hslt,pr,P,pf,rfl,xp2,fun p3 H3 f3 k3 g3=>?_⟩
 row_readAll go
 refine .inl ⟨⟨_,SqL.of g3⟩,?_⟩
 have xp3:=xp2.k0 k3
 have rn3:=rn2.k0 k3
 have lP:P.length ≤ 8:=ok.few
 refine Zlv (S:=[]) (Wk.lst (SqL.of g3) Ya) (fun D i H6=>Zb [] H3 H6∧Zbc K H6 D (Zg2 ⟨m,old,new⟩ (P.take i))) (fun D i H6 p=>p.1) (fun D H6 _ k6 g6=>⟨k6,[],g6,by simpa[Zg2]using .nil⟩) ?_ ?_
 ·rintro D i H6 x H7 fD hx ⟨k6,mD,gD,rD⟩ k7
  rw[Ym,Ym,Option.map_eq_some_iff]at hx
  obtain⟨n,hx,rfl⟩:=hx
  rw[Option.map_eq_some_iff]at hx
  obtain⟨⟨n,b⟩,hx,rfl⟩:=hx
  have mb:=Yj hx
  have eb:valA P n=some b:=Zc0 ok.nd mb
  have k67:Zb [] H3 H7:=k6.trans k7
  have xp7:=xp3.k0 k67
  have rn7:=rn3.k0 k67
  have okb:Zcr b:=ok.blk _ mb
  obtain⟨dx7,_,_,_,hslt7,_⟩:=id xp7.ex
  row_readAll go
  refine⟨o,do',_,rfl,rn7,rfl,?_⟩
  row_readAll go
  refine⟨pr,dx7,_,rfl,hslt7,pr,n,P,pf,b,rfl,xp7,eb,fun v7 i7=>?_⟩
  refine⟨o,do',⟨m,old,new⟩,n,v7,b,rfl,rn7,i7,okb.wf,by have:=okb.cnt; omega,by have:=okb.dep; omega,fun v8 H8 k8 i8=>?_⟩
  have lD:=rD.length
  have lD2:(Zg2 ⟨m,old,new⟩ (P.take i)).length ≤ P.length:=by unfold Zg2; rw[Yb,Yu]; omega
  refine Zs3 (k8.obj _ _ Ya (k7.obj _ _ Ya gD)) (by omega) fun H9 k9 g9=>⟨(k67.trans k8).step1 k9 fD,_,g9,?_⟩
  have nn:n∉(Zg2 ⟨m,old,new⟩ (P.take i)).map (·.1):=by
   rw[ZiW]
   intro hmem
   have nd:=ok.nd
   rw[← List.take_append_drop i P,Yl,List.nodup_append]at nd
   refine nd.2.2 n hmem n ?_ rfl
   refine Yv (f:=(·.1)) (a:=(n,b)) ?_
   rw[← List.getElem_cons_drop (Zdl hx)]
   rw[(Yk.mp hx).2]
   exact Yg
  have eP:Zcw (Zg2 ⟨m,old,new⟩ (P.take i)) n (renL ⟨m,old,new⟩ n b)=Zg2 ⟨m,old,new⟩ (P.take (i + 1)):=by
   rw[take_snoc hx]
   unfold Zcw
   rw[if_neg]
   ·unfold Zg2; rw[Yl]; rfl
   ·intro hh
    rw[List.any_eq_true]at hh
    obtain⟨p,hp2,e⟩:=hh
    exact nn (by rw[← of_decide_eq_true e]; exact Yv (f:=(·.1)) hp2)
  rw[← eP]
  exact(((rD.mono fun v b i=>i.mono k7).mono fun v b i=>i.mono k8).put Zdm (k:=n) (v:=v8) (x:=renL ⟨m,old,new⟩ n b) i8).mono fun v b i=>i.mono k9
 ·rintro D6 H6 fD ⟨k6,dD⟩
  rw[Yb,Yb,Yt]at dD
  row_readAll go
  intro A dA fA fdA nd
  have kn:Zb [] H6 (upd (upd H6 dA (.own A)) A (.ins CP dA [])):=(Zb.new fdA).trans (Zb.new (by rw[upd_ne (Ne.symm nd)]; exact fA))
  have hA:upd (upd H6 dA (.own A)) A (.ins CP dA []) A=some (.ins CP dA []):=Y_
  have hdA:upd (upd H6 dA (.own A)) A (.ins CP dA []) dA=some (.own A):=by rw[upd_ne nd]; exact Y_
  generalize upd (upd H6 dA (.own A)) A (.ins CP dA [])=H7 at kn hA hdA
  have k06:Zb [] H H6:=(k02.trans k3).trans k6
  refine⟨A,dA,D6,Zg2 ⟨m,old,new⟩ P,rfl,hA,hdA,nd,dD.keep kn Ya,ok.ren hn,fun nl e H8 x8 fnl fe k8=>⟨rfl,?_⟩⟩
  have k07:Zb [] H H7:=k06.trans kn
  refine q A _ H8 x8 (fun b hb=>?_) (k07.step k8 fun b hb=>?_)
  ·simp only[Yn,Ya,or_false]at hb
   rcases hb with rfl | rfl | rfl | rfl
   ·exact k06.free fA
   ·exact k06.free fdA
   ·exact k07.free fnl
   ·exact k07.free fe
  ·simp only[Yn,Ya,or_false]at hb
   rcases hb with rfl | rfl
   ·exact .inr (k06.free fA)
   ·exact .inr (k06.free fdA)
def Zqz(P:Prg)(m old new:Str):Prg:=if old=new then P else Zas (Zg2 ⟨m,old,new⟩ P)
def Zst(CU:YF)(m:Str)(H:Hp)(E:XK):Prop:=∀ d H',H d=none→Zb [] H H'→H' d=some (.xd [(("module" : Str),.str m)])→E (.ref CU) (some d) H'
def ZbM(K:YC)(CP CU CI CC:YF):Sp:=fun vs H Q E=>∃ pr P pf m old new,vs=[.ref pr,.str m,.str old,.str new]∧Zbs K H CP pr P pf∧Zbm P∧new.length ≤ 4000∧PyData.strOk new=true ∧
 ((valA P m=none∧Zst CU m H E)∨((valA P m).isSome=true∧ZeM new=false∧∀ H',Zb [] H H'→E (.ref CI) none H')∨((valA P m).isSome=true∧okN m∧okN old∧okN new∧old≠new∧Zfa P m old new=false∧∀ H',Zb [] H H'→E (.ref CC) none H') ∨
  ((valA P m).isSome=true∧okN m∧okN old∧okN new∧(old≠new→Zfa P m old new=true)∧∀ a fp H',Zbs K H' CP a (Zqz P m old new) fp→Zb [] H H'→Q (.ref a) H'))
theorem Zh9{CU CI CC:YF}(vs:List V)(H:Hp)(Q:VK)(E:XK)(h:ZbM K CP CU CI CC vs H Q E):ZcQ K CP CN CU CI CC (w0 E) { nx:=fun _ H'=>Q .non H',rt:=Q } (start ZiX vs) H:=by
 have main:∀ {pr P pf m old new},vs=[.ref pr,.str m,.str old,.str new]→Zbs K H CP pr P pf→Zbm P→new.length ≤ 4000→PyData.strOk new=true →
   ((valA P m=none∧Zst CU m H E)∨((valA P m).isSome=true∧ZeM new=false∧∀ H',Zb [] H H'→E (.ref CI) none H')∨((valA P m).isSome=true∧okN m∧okN old∧okN new∧old≠new∧Zfa P m old new=false∧∀ H',Zb [] H H'→E (.ref CC) none H') ∨
    ((valA P m).isSome=true∧okN m∧okN old∧okN new∧(old≠new→Zfa P m old new=true)∧∀ a fp H',Zbs K H' CP a (Zqz P m old new) fp→Zb [] H H'→Q (.ref a) H'))→ZcQ K CP CN CU CI CC (w0 E) { nx:=fun _ H'=>Q .non H',rt:=Q } (start ZiX vs) H:=by
  rintro pr P pf m old new rfl xp ok ln so h
  show ZcQ K CP CN CU CI CC _ _ [some (.ref pr),some (.str m),some (.str old),some (.str new),none,none] H
  unfold ZcQ
  obtain⟨dxp,nlp,dp,ef,hslt,_,_,_⟩:=id xp.ex
  row_readAll go
  refine⟨pr,dxp,_,rfl,hslt,pr,m,P,pf,rfl,xp,_,rfl,?_⟩
  cases hm:valA P m with
  | none =>
    have q:Zst CU m H E:=by
     rcases h with⟨_,q⟩ | ⟨z,_⟩ | ⟨z,_⟩ | ⟨z,_⟩
     ·exact q
     all_goals (rw[hm]at z; cases z)
    simp only[Option.isSome_none,Bool.not_false]
    row_readAll gg
    show YV (YU 1) Y1 _ H _
    row_readAll gg
    exact⟨by decide,fun d fd=>q d _ fd (Zb.new fd) Y_⟩
  | some b =>
    rw[hm]at h
    simp only[Option.isSome_some,Bool.not_true]
    row_readAll gg
    unfold Zf1
    row_readAll go
    refine Zd8 ln so fun H1 k1=>?_
    cases hn:ZeM new with
    | false =>
      have q:∀ H',Zb [] H H'→E (.ref CI) none H':=by
       rcases h with⟨z,_⟩ | ⟨_,_,q⟩ | ⟨_,_,_,z,_⟩ | ⟨_,_,_,z,_⟩
       ·cases z
       ·exact q
       all_goals (rw[ZeY z]at hn; cases hn)
      row_readAll go
      exact q H1 k1
    | true =>
      row_readAll go
      unfold Zf0
      row_readAll go
      have h:((okN m∧okN old∧okN new∧old≠new∧Zfa P m old new=false∧∀ H',Zb [] H H'→E (.ref CC) none H') ∨
     (okN m∧okN old∧okN new∧(old≠new→Zfa P m old new=true)∧∀ a fp H',Zbs K H' CP a (Zqz P m old new) fp→Zb [] H H'→Q (.ref a) H')):=by
       rcases h with⟨z,_⟩ | ⟨_,z,_⟩ | ⟨_,z⟩ | ⟨_,z⟩
       ·cases z
       ·rw[hn]at z; cases z
       ·exact .inl z
       ·exact .inr z
      by_cases e:old=new
      ·rw[decide_eq_true e]
       row_readAll go
       rcases h with⟨_,_,_,z,_⟩ | ⟨_,_,_,_,q⟩
       ·exact(z e).elim
       ·unfold Zqz at q
        rw[if_pos e]at q
        exact q pr pf H1 (xp.k0 k1) k1
      ·rw[decide_eq_false e]
       row_readAll go
       unfold ZfZ
       row_readAll go
       have hh:okN m∧okN old∧okN new:=by rcases h with⟨a,b,c,_⟩ | ⟨a,b,c,_⟩ <;> exact⟨a,b,c⟩
       refine⟨pr,P,pf,m,old,new,rfl,xp.k0 k1,ok,hh.1,hh.2.1,hh.2.2,fun H2 k2=>?_⟩
       cases hc:Zfa P m old new with
       | false =>
         row_readAll go
         rcases h with⟨_,_,_,_,_,q⟩ | ⟨_,_,_,z,_⟩
         ·exact q H2 (k1.trans k2)
         ·rw[z e]at hc; cases hc
       | true =>
         row_readAll go
         rcases h with⟨_,_,_,_,z,_⟩ | ⟨_,_,_,_,q⟩
         ·rw[hc]at z; cases z
         ·unfold Zqz at q
          rw[if_neg e]at q
          exact ZtE (CN:=CN) ((xp.k0 k1).k0 k2) ok hh.2.2 fun a fp H3 x3 _ k3=>q a fp H3 x3 ((k1.trans k2).trans k3)
 obtain⟨pr,P,pf,m,old,new,e,xp,ok,ln,so,h⟩:=h
 exact main e xp ok ln so h
end
end M
namespace M
open PySem
def Ex.mp(f:Str→Str):Ex→Ex
 | .int i=>.int i
 | .nm x=>.nm (f x)
 | .of x a=>.of (f x) a
 | .bin s a b=>.bin s (a.mp f) (b.mp f)
mutual
def Stm.mp(f:Str→Str→Str)(m:Str):Stm→Stm
 | .set x e=>.set (f m x) (e.mp (f m))
 | .del x=>.del (f m x)
 | .shw e=>.shw (e.mp (f m))
 | .call e=>.call (e.mp (f m))
 | .raise=>.raise
 | .imp t x=>.imp t (f m x)
 | .frm t w x=>.frm t (f t w) (f m x)
 | .star t=>.star t
 | .fn x b=>.fn (f m x) (mpL f m b)
 | .ite e b o=>.ite (e.mp (f m)) (mpL f m b) (mpL f m o)
 | .tri k b h=>.tri k (mpL f m b) (mpL f m h)
def mpL(f:Str→Str→Str)(m:Str):List Stm→List Stm
 | []=>[]
 | s :: l=>s.mp f m :: mpL f m l
end
theorem Ex.ren_mp(r:RnM)(m:Str):∀ e:Ex,e.ren r m=e.mp (r.cal m)
 | .int _ | .nm _ | .of _ _=>by simp only[Ex.ren,Ex.mp]
 | .bin s a b=>by simp only[Ex.ren,Ex.mp,Ex.ren_mp r m a,Ex.ren_mp r m b]
mutual
theorem Stm.ren_mp(r:RnM)(m:Str):∀ s:Stm,s.ren r m=s.mp r.cal m
 | .set .. | .del .. | .shw .. | .call .. | .raise | .imp .. | .frm .. | .star ..=>by simp only[Stm.ren,Stm.mp,Ex.ren_mp]
 | .fn n b=>by simp only[Stm.ren,Stm.mp,renL_mp r m b]
 | .ite e b o=>by simp only[Stm.ren,Stm.mp,Ex.ren_mp,renL_mp r m b,renL_mp r m o]
 | .tri k b o=>by simp only[Stm.ren,Stm.mp,renL_mp r m b,renL_mp r m o]
theorem renL_mp(r:RnM)(m:Str):∀ b:List Stm,renL r m b=mpL r.cal m b
 | []=>by simp only[renL,mpL]
 | s :: l=>by simp only[renL,mpL,Stm.ren_mp r m s,renL_mp r m l]
end
theorem Ex.mp_mp(f g:Str→Str):∀ e:Ex,(e.mp f).mp g=e.mp fun x=>g (f x)
 | .int _ | .nm _ | .of _ _=>by simp only[Ex.mp]
 | .bin s a b=>by simp only[Ex.mp,Ex.mp_mp f g a,Ex.mp_mp f g b]
mutual
theorem Stm.mp_mp(f g:Str→Str→Str)(m:Str):∀ s:Stm,(s.mp f m).mp g m=s.mp (fun k x=>g k (f k x)) m
 | .set .. | .del .. | .shw .. | .call .. | .raise | .imp .. | .frm .. | .star ..=>by simp only[Stm.mp,Ex.mp_mp]
 | .fn n b=>by simp only[Stm.mp,mpL_mp f g m b]
 | .ite e b o=>by simp only[Stm.mp,Ex.mp_mp,mpL_mp f g m b,mpL_mp f g m o]
 | .tri k b o=>by simp only[Stm.mp,mpL_mp f g m b,mpL_mp f g m o]
theorem mpL_mp(f g:Str→Str→Str)(m:Str):∀ b:List Stm,mpL g m (mpL f m b)=mpL (fun k x=>g k (f k x)) m b
 | []=>by simp only[mpL]
 | s :: l=>by simp only[mpL,Stm.mp_mp f g m s,mpL_mp f g m l]
end
theorem Ex.mp_id:∀ e:Ex,e.mp (fun x=>x)=e
 | .int _ | .nm _ | .of _ _=>by simp only[Ex.mp]
 | .bin s a b=>by simp only[Ex.mp,Ex.mp_id a,Ex.mp_id b]
mutual
theorem Stm.mp_id(m:Str):∀ s:Stm,s.mp (fun _ x=>x) m=s
 | .set .. | .del .. | .shw .. | .call .. | .raise | .imp .. | .frm .. | .star ..=>by simp only[Stm.mp,Ex.mp_id]
 | .fn n b=>by simp only[Stm.mp,mpL_id m b]
 | .ite e b o=>by simp only[Stm.mp,Ex.mp_id,mpL_id m b,mpL_id m o]
 | .tri k b o=>by simp only[Stm.mp,mpL_id m b,mpL_id m o]
theorem mpL_id(m:Str):∀ b:List Stm,mpL (fun _ x=>x) m b=b
 | []=>by simp only[mpL]
 | s :: l=>by simp only[mpL,Stm.mp_id m s,mpL_id m l]
end
theorem Zkm(m n:Str):plE m (.nm n)=[(some m,n)]:=rfl
theorem ZcR(m n a:Str):plE m (.of n a)=[(some m,n),(none,a)]:=rfl
theorem Ze3(m:Str)(s:Bool)(a b:Ex):plE m (.bin s a b)=plE m a++plE m b:=by unfold plE; rw[Ex.rds,List.flatMap_append]
theorem Ze4(m:Str)(i:Int):plE m (.int i)=[]:=rfl
def AgE(f g:Str→Str→Str)(l:List PlN):Prop:=∀ k x,((some k,x):PlN)∈l→f k x=g k x
theorem AgE.left{f g:Str→Str→Str}{a b:List PlN}(h:AgE f g (a++b)):AgE f g a:=fun k x m=>h k x (Yo _ m)
theorem AgE.right{f g:Str→Str→Str}{a b:List PlN}(h:AgE f g (a++b)):AgE f g b:=fun k x m=>h k x (Yp _ m)
theorem Ex.mp_congr{f g:Str→Str→Str}(m:Str):∀ {e:Ex},AgE f g (plE m e)→e.mp (f m)=e.mp (g m)
 | .int _,_=>rfl
 | .nm n,h=>by simp only[Ex.mp,h m n (by rw[Zkm]; simp)]
 | .of n a,h=>by simp only[Ex.mp,h m n (by rw[ZcR]; simp)]
 | .bin s a b,h=>by
   rw[Ze3]at h
   simp only[Ex.mp,Ex.mp_congr m h.left,Ex.mp_congr m h.right]
def plW(m:Str)(l:List (Pth×Stm)):List PlN:=l.flatMap fun r=>plS m r.2
theorem Zjy(m:Str)(a b:List (Pth×Stm)):plW m (a++b)=plW m a++plW m b:=by unfold plW; exact List.flatMap_append
theorem ZmU(m:Str)(p:Pth)(s:Stm)(b:List (Pth×Stm)):plW m ((p,s) :: b)=plS m s++plW m b:=rfl
theorem ZeH(m:Str)(s:Stm)(e:Ex)(h:s.exprs=[e]):plS m s=plE m e++plT m s:=by unfold plS; rw[h]; simp
theorem ZkR(m:Str)(s:Stm)(h:s.exprs=[]):plS m s=plT m s:=by unfold plS; rw[h]; simp
mutual
theorem Stm.mp_congr{f g:Str→Str→Str}(m:Str):∀ {s:Stm} {p:Pth},AgE f g (plS m s++plW m (s.sub p))→s.mp f m=s.mp g m
 | .set n e,p,h=>by
   have h:=h.left
   rw[ZeH m _ e rfl]at h
   simp only[Stm.mp,Ex.mp_congr m h.left,h.right m n (by simp[plT])]
 | .shw e,p,h=>by
   have h:=h.left
   rw[ZeH m _ e rfl]at h
   simp only[Stm.mp,Ex.mp_congr m h.left]
 | .call e,p,h=>by
   have h:=h.left
   rw[ZeH m _ e rfl]at h
   simp only[Stm.mp,Ex.mp_congr m h.left]
 | .del n,p,h=>by
   have h:=h.left
   rw[ZkR m _ rfl]at h
   simp only[Stm.mp,h m n (by simp[plT])]
 | .raise,p,h=>rfl
 | .imp t n,p,h=>by
   have h:=h.left
   rw[ZkR m _ rfl]at h
   simp only[Stm.mp,h m n (by simp[plT])]
 | .frm t w n,p,h=>by
   have h:=h.left
   rw[ZkR m _ rfl]at h
   simp only[Stm.mp,h m n (by simp[plT]),h t w (by simp[plT])]
 | .star t,p,h=>rfl
 | .fn n b,p,h=>by
   have h2:=h.right
   have h:=h.left
   rw[ZkR m _ rfl]at h
   simp only[Stm.sub]at h2
   simp only[Stm.mp,h m n (by simp[plT]),mpL_congr m h2]
 | .ite e b o,p,h=>by
   have h2:=h.right
   have h:=h.left
   rw[ZeH m _ e rfl]at h
   simp only[Stm.sub,Zjy]at h2
   simp only[Stm.mp,Ex.mp_congr m h.left,mpL_congr m h2.left,mpL_congr m h2.right]
 | .tri k b o,p,h=>by
   have h2:=h.right
   simp only[Stm.sub,Zjy]at h2
   simp only[Stm.mp,mpL_congr m h2.left,mpL_congr m h2.right]
theorem mpL_congr{f g:Str→Str→Str}(m:Str):∀ {b:List Stm} {p:Pth} {i:Nat},AgE f g (plW m (walkL p i b))→mpL f m b=mpL g m b
 | [],p,i,h=>rfl
 | s :: l,p,i,h=>by
   simp only[walkL,ZmU,Zjy]at h
   rw[← Ys]at h
   simp only[mpL,Stm.mp_congr m h.left,mpL_congr m h.right]
end
def pls(P:Prg):List PlN:=Zhw (Zbt P)
def Zra(f:Str→Str→Str):PlN→PlN
 | (some m,x)=>(some m,f m x)
 | (none,a)=>(none,a)
theorem Zhx(f:Str→Str→Str)(m:Str):∀ e:Ex,plE m (e.mp (f m))=(plE m e).map (Zra f)
 | .int _=>rfl
 | .nm n=>rfl
 | .of n a=>rfl
 | .bin s a b=>by rw[Ex.mp,Ze3,Ze3,Yl,Zhx f m a,Zhx f m b]
theorem ZqA(f:Str→Str→Str)(m:Str)(s:Stm):plS m (s.mp f m)=(plS m s).map (Zra f):=by
 cases s with
 | set n e=>rw[Stm.mp,ZeH m _ (e.mp (f m)) rfl,ZeH m _ e rfl,Yl,Zhx]; rfl
 | shw e=>rw[Stm.mp,ZeH m _ (e.mp (f m)) rfl,ZeH m _ e rfl,Yl,Zhx]; rfl
 | call e=>rw[Stm.mp,ZeH m _ (e.mp (f m)) rfl,ZeH m _ e rfl,Yl,Zhx]; rfl
 | ite e b o=>rw[Stm.mp,ZeH m _ (e.mp (f m)) rfl,ZeH m _ e rfl,Yl,Zhx]; rfl
 | del n=>rw[Stm.mp]; rfl
 | raise=>rw[Stm.mp]; rfl
 | imp t n=>rw[Stm.mp]; rfl
 | frm t w n=>rw[Stm.mp]; rfl
 | star t=>rw[Stm.mp]; rfl
 | fn n b=>rw[Stm.mp]; rfl
 | tri k b o=>rw[Stm.mp]; rfl
theorem Zkn(r:RnM):∀ l:List Zl_,Zhw (l.map fun x=>(x.1,x.2.1,x.2.2.ren r x.1))=(Zhw l).map (Zra r.cal)
 | []=>rfl
 | x :: l=>by
   have:=Zkn r l
   unfold Zhw at this ⊢
   rw[Yr,Yz,Yz,Yl,this,Stm.ren_mp,ZqA]
theorem Zl0(r:RnM)(P:Prg):pls (Zg2 r P)=(pls P).map (Zra r.cal):=by unfold pls; rw[ZgR,Zkn]
def Zhy(P:Prg):Prop:=∀ x∈Zbt P,x.2.2.isStar=false
theorem ZmV(r:RnM)(m:Str)(s:Stm):(s.ren r m).isStar=s.isStar:=by cases s <;> simp only[Stm.ren,Stm.isStar]
theorem Zhy.ren{P:Prg}(h:Zhy P)(r:RnM):Zhy (Zg2 r P):=by
 intro x hx
 rw[ZgR]at hx
 obtain⟨y,hy,rfl⟩:=Yq.mp hx
 show(y.2.2.ren r y.1).isStar=false
 rw[ZmV]
 exact h y hy
theorem Zl1{P:Prg}{t old new:Str}(h:Zhy P)(h1:((none,old):PlN)∉pls P)(h2:((none,new):PlN)∉pls P)(h3:((some t,new):PlN)∉pls P):Zfa P t old new=true:=by
 unfold Zfa
 have e:(Zbt P).any (fun x=>x.2.2.isStar)=false:=by
  rw[List.any_eq_false]
  intro x hx
  rw[h x hx]; simp
 unfold pls at h1 h2 h3
 rw[e,decide_eq_false h1,decide_eq_false h2,decide_eq_false h3]
 rfl
theorem ZmW{P:Prg}{r:RnM}{a:Str}:((none,a):PlN)∈pls (Zg2 r P)↔((none,a):PlN)∈pls P:=by
 rw[Zl0,Yq]
 constructor
 ·rintro⟨⟨m,x⟩,h,e⟩
  cases m with
  | some m=>cases e
  | none=>cases e; exact h
 ·exact fun h=>⟨_,h,rfl⟩
theorem ZmX{P:Prg}{r:RnM}{m x:Str}(h:((some m,x):PlN)∈pls (Zg2 r P)):∃ y,((some m,y):PlN)∈pls P∧r.cal m y=x:=by
 rw[Zl0,Yq]at h
 obtain⟨⟨k,y⟩,h,e⟩:=h
 cases k with
 | none=>cases e
 | some k=>cases e; exact⟨y,h,rfl⟩
structure Free(P:Prg)(ns lost:List Str):Prop where
 star:Zhy P
 at_:∀ a,((none,a):PlN)∈pls P→a∉lost
 nm:∀ m x,((some m,x):PlN)∈pls P→x∈ns
section
variable {P:Prg} {ns lost:List Str} {t old new:Str}
theorem Free.can(F:Free P ns lost)(h1:old∈lost)(h2:new∈lost)(h3:new∉ns):Zfa P t old new=true :=
 Zl1 F.star (fun z=>F.at_ _ z h1) (fun z=>F.at_ _ z h2) fun z=>h3 (F.nm _ _ z)
theorem Free.ren(F:Free P ns lost)(r:RnM):Free (Zg2 r P) (r.n :: ns) lost:=by
 refine⟨F.star.ren r,fun a h=>F.at_ a (ZmW.mp h),fun m x h=>?_⟩
 obtain⟨y,hy,e⟩:=ZmX h
 unfold RnM.cal at e
 split at e
 ·rw[← e]; exact Yg
 ·rw[← e]; exact Yf _ (F.nm _ _ hy)
theorem Zko(nd:(P.map (·.1)).Nodup):((Zas P).map (·.1)).Nodup:=by rw[Zch]; exact ZeU nd
end
end M
namespace M
open PySem PySem.Spec PyProof.Rows L2 L2H SlX
local macro_rules | `(tactic| row_readAll n4) => `(tactic| simp only [Zcc, Zcd, Zc7, Zh4, Zce, Zfx, Zc8, Zg6])
local macro_rules | `(tactic| row_readAll gg) => `(tactic| ((try row_readAll go); (try row_readAll n4); (try row_readAll go); (try row_readAll n4); (try row_readAll go)))
def Ex.pln(lost:List Str)(o:Str):Ex→Ex
 | .int i=>.int i
 | .nm n=>.nm n
 | .of n a=>.of n (if a∈lost then o else a)
 | .bin s l r=>.bin s (l.pln lost o) (r.pln lost o)
mutual
def Stm.pln(lost:List Str)(o:Str):Stm→Stm
 | .set n e=>.set n (e.pln lost o)
 | .del n=>.del n
 | .shw e=>.shw (e.pln lost o)
 | .call e=>.call (e.pln lost o)
 | .raise=>.raise
 | .imp t n=>.imp t n
 | .frm t w n=>.frm t w n
 | .star t=>.shw (.int 4)
 | .fn n b=>.fn n (plnL lost o b)
 | .ite e b c=>.ite (e.pln lost o) (plnL lost o b) (plnL lost o c)
 | .tri k b c=>.tri k (plnL lost o b) (plnL lost o c)
def plnL(lost:List Str)(o:Str):List Stm→List Stm
 | []=>[]
 | s :: r=>s.pln lost o :: plnL lost o r
end
theorem Zh_(lost:List Str)(o:Str):∀ l:List Stm,plnL lost o l=l.map (Stm.pln lost o)
 | []=>by simp[plnL]
 | s :: l=>by simp[plnL,Zh_ lost o l]
theorem Ex.wf_four:(Ex.int 4).wf 3:=by simp only[Ex.wf,okI]; decide
theorem Ex.pln_wf{lost:List Str}{o:Str}(ho:okN o):∀ {e:Ex} {d:Nat},e.wf d→(e.pln lost o).wf d:=by
 intro e
 induction e with
 | int i=>intro d w; cases d <;> exact w
 | nm x=>intro d w; cases d <;> exact w
 | of x a =>
   intro d w
   have w:okN x∧okN a:=by cases d <;> exact w
   have:okN x∧okN (if a∈lost then o else a):=⟨w.1,by split; exact ho; exact w.2⟩
   cases d <;> exact this
 | bin s a b i1 i2 =>
   intro d w
   cases d with
   | zero=>exact w.elim
   | succ d=>exact⟨i1 w.1,i2 w.2⟩
mutual
theorem Stm.pln_wf{lost:List Str}{o:Str}(ho:okN o):∀ {s:Stm},s.wf→(s.pln lost o).wf
 | .set n e,w=>by simp only[Stm.wf]at w; simp only[Stm.pln,Stm.wf]; exact⟨w.1,Ex.pln_wf ho w.2⟩
 | .shw e,w=>by simp only[Stm.wf]at w; simp only[Stm.pln,Stm.wf]; exact Ex.pln_wf ho w
 | .call e,w=>by simp only[Stm.wf]at w; simp only[Stm.pln,Stm.wf]; exact Ex.pln_wf ho w
 | .del ..,w | .raise,w | .imp ..,w | .frm ..,w=>by simp only[Stm.pln]; exact w
 | .star t,w=>by simp only[Stm.pln,Stm.wf]; exact Ex.wf_four
 | .fn n b,w=>by simp only[Stm.wf]at w; simp only[Stm.pln,Stm.wf]; exact⟨w.1,plnL_wf ho w.2⟩
 | .ite e b c,w=>by simp only[Stm.wf]at w; simp only[Stm.pln,Stm.wf]; exact⟨Ex.pln_wf ho w.1,plnL_wf ho w.2.1,plnL_wf ho w.2.2⟩
 | .tri k b c,w=>by simp only[Stm.wf]at w; simp only[Stm.pln,Stm.wf]; exact⟨w.1,plnL_wf ho w.2.1,plnL_wf ho w.2.2⟩
theorem plnL_wf{lost:List Str}{o:Str}(ho:okN o):∀ {b:List Stm},wfL b→wfL (plnL lost o b)
 | [],w=>by simp only[plnL]; exact w
 | s :: l,w=>by simp only[wfL]at w; simp only[plnL,wfL]; exact⟨Stm.pln_wf ho w.1,plnL_wf ho w.2⟩
end
mutual
theorem Stm.pln_dep(lost:List Str)(o:Str):∀ s:Stm,(s.pln lost o).dep=s.dep
 | .set .. | .del .. | .shw .. | .call .. | .raise | .imp .. | .frm .. | .star ..=>by simp only[Stm.pln,Stm.dep]
 | .fn n b=>by simp only[Stm.pln,Stm.dep,plnL_dep lost o b]
 | .ite e b c=>by simp only[Stm.pln,Stm.dep,plnL_dep lost o b,plnL_dep lost o c]
 | .tri k b c=>by simp only[Stm.pln,Stm.dep,plnL_dep lost o b,plnL_dep lost o c]
theorem plnL_dep(lost:List Str)(o:Str):∀ b:List Stm,depL (plnL lost o b)=depL b
 | []=>by simp only[plnL]
 | s :: l=>by simp only[plnL,depL,Stm.pln_dep lost o s,plnL_dep lost o l]
end
mutual
theorem Stm.pln_cnt(lost:List Str)(o:Str):∀ s:Stm,(s.pln lost o).cnt=s.cnt
 | .set .. | .del .. | .shw .. | .call .. | .raise | .imp .. | .frm .. | .star ..=>by simp only[Stm.pln,Stm.cnt]
 | .fn n b=>by simp only[Stm.pln,Stm.cnt,plnL_cnt lost o b]
 | .ite e b c=>by simp only[Stm.pln,Stm.cnt,plnL_cnt lost o b,plnL_cnt lost o c]
 | .tri k b c=>by simp only[Stm.pln,Stm.cnt,plnL_cnt lost o b,plnL_cnt lost o c]
theorem plnL_cnt(lost:List Str)(o:Str):∀ b:List Stm,cntL (plnL lost o b)=cntL b
 | []=>by simp only[plnL]
 | s :: l=>by simp only[plnL,cntL,Stm.pln_cnt lost o s,plnL_cnt lost o l]
end
mutual
theorem ZoJ(lost:List Str)(o:Str):∀ (s:Stm) (p:Pth),(s.pln lost o).sub p=(s.sub p).map fun x=>(x.1,x.2.pln lost o)
 | .set ..,p | .del ..,p | .shw ..,p | .call ..,p | .raise,p | .imp ..,p | .frm ..,p | .star ..,p=>by simp only[Stm.pln,Stm.sub,List.map_nil]
 | .fn n b,p=>by simp only[Stm.pln,Stm.sub,walk_pln lost o b]
 | .ite e b c,p=>by simp only[Stm.pln,Stm.sub,walk_pln lost o b,walk_pln lost o c,Yl]
 | .tri k b c,p=>by simp only[Stm.pln,Stm.sub,walk_pln lost o b,walk_pln lost o c,Yl]
theorem walk_pln(lost:List Str)(o:Str):∀ (b:List Stm) (p:Pth) (i:Nat),walkL p i (plnL lost o b)=(walkL p i b).map fun x=>(x.1,x.2.pln lost o)
 | [],p,i=>by simp only[plnL,walkL,List.map_nil]
 | s :: l,p,i=>by simp only[plnL,walkL,Yr,Yl,ZoJ lost o s,walk_pln lost o l]
end
def Zhb(lost:List Str)(o:Str)(P:Prg):Prg:=P.map fun x=>(x.1,plnL lost o x.2)
theorem ZgT(lost:List Str)(o:Str)(P:Prg):(Zhb lost o P).map (·.1)=P.map (·.1):=by unfold Zhb; rw[Yx]; rfl
theorem Zcr.pln{lost:List Str}{o:Str}(ho:okN o){b:List Stm}(ok:Zcr b):Zcr (plnL lost o b):=by
 refine⟨plnL_wf ho ok.wf,by rw[plnL_dep]; exact ok.dep,by rw[plnL_cnt]; exact ok.cnt,fun x hx=>?_⟩
 rw[walk_pln]at hx
 obtain⟨y,hy,rfl⟩:=Yq.mp hx
 exact ok.pth y hy
theorem Zbm.pln{lost:List Str}{o:Str}(ho:okN o){P:Prg}(ok:Zbm P):Zbm (Zhb lost o P):=by
 refine⟨by rw[ZgT]; exact ok.nd,by unfold Zhb; rw[Yb]; exact ok.few,fun x hx=>?_,fun x hx=>?_⟩
 ·obtain⟨y,hy,rfl⟩:=Yq.mp hx
  exact ok.nm y hy
 ·obtain⟨y,hy,rfl⟩:=Yq.mp hx
  exact(ok.blk y hy).pln ho
theorem ZgU(lost:List Str)(o:Str):∀ P:Prg,Zbt (Zhb lost o P)=(Zbt P).map fun x=>(x.1,x.2.1,x.2.2.pln lost o)
 | []=>rfl
 | x :: l=>by
   have:=ZgU lost o l
   unfold Zbt Zhb at this ⊢
   rw[Yr,Yz,Yz,Yl,this,walk_pln,Yx,Yx]
   rfl
theorem Zjz{lost:List Str}{o m:Str}(ho:o∉lost):∀ {e:Ex} {x:PlN},x∈plE m (e.pln lost o)→(∃ n,x=(some m,n)∧x∈plE m e)∨∃ a,x=(none,a)∧a∉lost
 | .int _,x,h=>by rw[Ex.pln,Ze4]at h; cases h
 | .nm n,x,h=>by
   rw[Ex.pln]at h
   rw[Zkm,Ye]at h
   exact .inl ⟨n,h,by rw[h,Zkm]; simp⟩
 | .of n a,x,h=>by
   rw[Ex.pln,ZcR]at h
   simp only[Yn,Ya,or_false]at h
   rcases h with rfl | rfl
   ·exact .inl ⟨n,rfl,by rw[ZcR]; simp⟩
   ·refine .inr ⟨_,rfl,?_⟩
    split
    ·exact ho
    ·assumption
 | .bin s l r,x,h=>by
   rw[Ex.pln,Ze3,Yh]at h
   rw[Ze3]
   rcases h with h | h
   ·rcases Zjz ho h with⟨n,e,z⟩ | z
    ·exact .inl ⟨n,e,Yo _ z⟩
    ·exact .inr z
   ·rcases Zjz ho h with⟨n,e,z⟩ | z
    ·exact .inl ⟨n,e,Yp _ z⟩
    ·exact .inr z
theorem ZoK{lost:List Str}{o m:Str}(ho:o∉lost){s:Stm}{x:PlN}(h:x∈plS m (s.pln lost o)):(∃ k n,x=(some k,n)∧x∈plS m s)∨∃ a,x=(none,a)∧a∉lost:=by
 have same:∀ s:Stm,s.exprs=[]→x∈plS m s→(∃ k n,x=(some k,n)∧x∈plS m s)∨∃ a,x=(none,a)∧a∉lost:=by
  intro s e hx
  refine .inl ?_
  have hx2:=hx
  rw[ZkR m s e]at hx2
  cases s <;> simp only[plT,Yn,Ya,or_false]at hx2 <;> first
   | exact hx2.elim
   | (subst hx2; exact⟨_,_,rfl,hx⟩)
   | (rcases hx2 with rfl | rfl <;> exact⟨_,_,rfl,hx⟩)
 have ex:∀ (s s':Stm) (e:Ex),s.exprs=[e]→s'.exprs=[e.pln lost o]→plT m s'=plT m s→(∀ y∈plT m s,∃ k n,y=((some k,n):PlN))→x∈plS m s'→(∃ k n,x=(some k,n)∧x∈plS m s)∨∃ a,x=(none,a)∧a∉lost:=by
  intro s s' e e1 e2 e3 e4 hx
  rw[ZeH m s' _ e2,e3,Yh]at hx
  rw[ZeH m s _ e1]
  rcases hx with hx | hx
  ·rcases Zjz ho hx with⟨n,e,z⟩ | z
   ·exact .inl ⟨m,n,e,Yo _ z⟩
   ·exact .inr z
  ·obtain⟨k,n,e⟩:=e4 x hx
   exact .inl ⟨k,n,e,Yp _ hx⟩
 cases s <;> simp only[Stm.pln]at h
 case star=>rw[ZeH m _ (.int 4) rfl]at h; simp[Ze4,plT]at h
 case set n e=>exact ex (.set n e) (.set n (e.pln lost o)) e rfl rfl rfl (by simp[plT]) h
 case shw e=>exact ex (.shw e) (.shw (e.pln lost o)) e rfl rfl rfl (by simp[plT]) h
 case call e=>exact ex (.call e) (.call (e.pln lost o)) e rfl rfl rfl (by simp[plT]) h
 case ite e b c=>exact ex (.ite e b c) (.ite (e.pln lost o) (plnL lost o b) (plnL lost o c)) e rfl rfl rfl (by simp[plT]) h
 case fn n b=>exact same (.fn n b) rfl h
 case tri k b c=>exact same (.tri k b c) rfl h
 all_goals exact same _ rfl h
theorem Zkp{lost:List Str}{o:Str}(ho:o∉lost){P:Prg}{x:PlN}(h:x∈pls (Zhb lost o P)):(∃ k n,x=(some k,n)∧x∈pls P)∨∃ a,x=(none,a)∧a∉lost:=by
 unfold pls Zhw at h
 rw[ZgU]at h
 obtain⟨y,hy,hx⟩:=List.mem_flatMap.mp h
 obtain⟨z,hz,rfl⟩:=Yq.mp hy
 rcases ZoK ho hx with⟨k,n,e,q⟩ | q
 ·exact .inl ⟨k,n,e,List.mem_flatMap.mpr ⟨z,hz,q⟩⟩
 ·exact .inr q
theorem Zl2{lost:List Str}{o:Str}{P:Prg}:Zhy (Zhb lost o P):=by
 intro x hx
 rw[ZgU]at hx
 obtain⟨y,hy,rfl⟩:=Yq.mp hx
 show(y.2.2.pln lost o).isStar=false
 cases y.2.2 <;> simp only[Stm.pln,Stm.isStar]
def ZqB(P:Prg)(ns:List Str):Prop:=∀ m x,((some m,x):PlN)∈pls P→x∈ns
theorem ZqB.pln{P:Prg}{ns lost:List Str}{o:Str}(ho:o∉lost)(h:ZqB P ns):ZqB (Zhb lost o P) ns:=by
 intro m x hx
 rcases Zkp ho hx with⟨k,n,_,q⟩ | ⟨a,e,_⟩
 ·exact h m x q
 ·cases e
theorem ZmY{P:Prg}{ns lost:List Str}{o:Str}(ho:o∉lost)(h:ZqB P ns):Free (Zhb lost o P) ns lost:=by
 refine⟨Zl2,fun a ha=>?_,h.pln ho⟩
 rcases Zkp ho ha with⟨k,n,e,_⟩ | ⟨b,e,q⟩
 ·cases e
 ·cases e; exact q
section
variable {K:YC} {H H':Hp} {Q:VK} {lc p:YF} {lost:List Str} {o:Str}
def Zl(K:YC)(n:Nat):Sp:=fun vs H Q _=>∃ v e lc lost o,vs=[v,.ref lc,.str o]∧Im K H v (Ex.d e)∧SqT K H lc (lost.map V.str)∧e.dep < n∧∀ v' H',Zb [] H H'→Im K H' v' (e.pln lost o).d→Q v' H'
def Zbh(K:YC)(sp:Sp):TS:=(Xb (Xk (tOr (tB (tCB (rIsi K) (YV (YU 0) (YV (tC (.ty "int")) Y1)))) (Xe (tOp (ZbB K) (tOp (rIx K) (YU 0) (tC (.int 0))) (tC (.str "name"))))) (Xj (YU 0)) Xq)
 (Xb (Xk (Xe (tOp (ZbB K) (tOp (rIx K) (YU 0) (tC (.int 0))) (tC (.str "of")))) (Xj (tIf (Xe (tOp (Zi9 K) (tOp (rIx K) (YU 0) (tC (.int 2))) (YU 1))) (Zf K (YV (tC (.str "of")) (YV (tOp (rIx K) (YU 0) (tC (.int 1))) (YV (YU 2) Y1)))) (YU 0))) Xq)
 (Xj (Zf K (YV (tOp (rIx K) (YU 0) (tC (.int 0))) (YV (Xo sp [] E0 (YV (tOp (rIx K) (YU 0) (tC (.int 1))) (YV (YU 1) (YV (YU 2) Y1)))) (YV (Xo sp [] E0 (YV (tOp (rIx K) (YU 0) (tC (.int 2))) (YV (YU 1) (YV (YU 2) Y1)))) Y1)))))))
def Zf9:List Str:=["_law_expr_here", "_law_lost", "_law_other"]
theorem ZkS{n:Nat}{vs:List V}{E:XK}{v:V}{e:Ex}(ev:vs=[v,.ref lc,.str o])(i:Im K H v (Ex.d e))(s:SqT K H lc (lost.map V.str))(d:e.dep < n)(q:∀ v' H',Zb [] H H'→Im K H' v' (e.pln lost o).d→Q v' H'):Zl K n vs H Q E:=⟨v,e,lc,lost,o,ev,i,s,d,q⟩
theorem Ze5{n:Nat}(vs:List V)(H:Hp)(Q:VK)(E:XK)(h:Zl K (n + 1) vs H Q E):Zbh K (Zl K n) { nx:=fun _ H'=>Q .non H',rt:=Q } (start Zf9 vs) H:=by
 obtain⟨v,e,lc,lost,o,rfl,hi,sl,hd,q⟩:=h
 show Zbh K _ _ [some v,some (.ref lc),some (.str o)] H
 unfold Zbh
 have sz:=Z3
 cases e with
 | int i =>
   cases hi
   row_readAll go
   exact q _ _ (Zb.refl _ _) (.int _)
 | nm x =>
   have hi0:=hi
   obtain⟨c,xs,rfl,hs,iT⟩:=hi.of_tup
   obtain⟨v0,r',rfl,h0,iT⟩:=iT.of_cons
   obtain⟨v1,r',rfl,h1,iT⟩:=iT.of_cons
   cases iT.of_nil; cases h0.of_str; cases h1.of_str
   row_readAll go
   exact q _ _ (Zb.refl _ _) hi0
 | of x y =>
   have hi0:=hi
   obtain⟨c,xs,rfl,hs,iT⟩:=hi.of_tup
   obtain⟨v0,r',rfl,h0,iT⟩:=iT.of_cons
   obtain⟨v1,r',rfl,h1,iT⟩:=iT.of_cons
   obtain⟨v2,r',rfl,h2,iT⟩:=iT.of_cons
   cases iT.of_nil; cases h0.of_str; cases h1.of_str; cases h2.of_str
   row_readAll go
   refine Zk5 sl ?_
   by_cases hy:y∈lost
   ·rw[decide_eq_true hy]
    row_readAll go
    refine Zj (by row_readAll ln) fun c7 H7 f7 k7 s7=>?_
    refine q _ H7 k7 ?_
    rw[Ex.pln,if_pos hy]
    exact .tup s7 (.cons (.str _) (.cons (.str _) (.cons (.str _) .nil)))
   ·rw[decide_eq_false hy]
    row_readAll go
    refine q _ H (Zb.refl _ _) ?_
    rw[Ex.pln,if_neg hy]
    exact hi0
 | bin s l r2 =>
   obtain⟨c,xs,rfl,hs,iT⟩:=hi.of_tup
   obtain⟨v0,r',rfl,h0,iT⟩:=iT.of_cons
   obtain⟨v1,r',rfl,h1,iT⟩:=iT.of_cons
   obtain⟨v2,r',rfl,h2,iT⟩:=iT.of_cons
   cases iT.of_nil; cases h0.of_str
   have dl:l.dep < n:=by simp only[Ex.dep]at hd; omega
   have dr:r2.dep < n:=by simp only[Ex.dep]at hd; omega
   cases s <;>
   ·row_readAll go
    refine ZkS rfl h1 sl dl fun w1 H1 k1 i1=>?_
    row_readAll go
    refine ZkS rfl (h2.mono k1) (k1.sqT sl) dr fun w2 H2 k2 i2=>?_
    row_readAll go
    refine Zj (by row_readAll ln) fun c7 H7 f7 k7 s7=>?_
    exact q _ H7 ((k1.trans k2).trans k7) (.tup s7 (.cons (.str _) (.cons ((i1.mono k2).mono k7) (.cons (i2.mono k7) .nil))))
def ZM(K:YC)(n:Nat):Sp:=fun vs H Q _=>∃ v b lc lost o,vs=[v,.ref lc,.str o]∧Im K H v (.tuple (blkD b))∧SqT K H lc (lost.map V.str)∧wfL b∧cntL b ≤ 1000∧depL b < n∧∀ v' H',Zb [] H H'→Im K H' v' (.tuple (blkD (plnL lost o b)))→Q v' H'
def Zdc(K:YC)(sp:Sp):TS:=(Xp (tBM K "list" rAppend (YU 3) (YV (YU 4) Y1)))
def Zdd(K:YC)(sp:Sp):TS:=(Xb (Xk (Xe (tOp (ZbB K) (tOp (rIx K) (YU 4) (tC (.int 0))) (tC (.str "star")))) (Xm (Zf K (YV (tC (.str "show")) (YV (tC (.int 4)) Y1))) (Y6 4)) (Xk (Xe (tOp (Zi9 K) (tOp (rIx K) (YU 4) (tC (.int 0))) (Zf K (YV (tC (.str "show")) (YV (tC (.str "call")) Y1))))) (Xm (Zf K (YV (tOp (rIx K) (YU 4) (tC (.int 0))) (YV (Xo (Zl K 5) [] E0 (YV (tOp (rIx K) (YU 4) (tC (.int 1))) (YV (YU 1) (YV (YU 2) Y1)))) Y1))) (Y6 4)) (Xk (Xe (tOp (ZbB K) (tOp (rIx K) (YU 4) (tC (.int 0))) (tC (.str "set")))) (Xm (Zf K (YV (tC (.str "set")) (YV (tOp (rIx K) (YU 4) (tC (.int 1))) (YV (Xo (Zl K 5) [] E0 (YV (tOp (rIx K) (YU 4) (tC (.int 2))) (YV (YU 1) (YV (YU 2) Y1)))) Y1)))) (Y6 4)) (Xk (Xe (tOp (ZbB K) (tOp (rIx K) (YU 4) (tC (.int 0))) (tC (.str "def")))) (Xm (Zf K (YV (tC (.str "def")) (YV (tOp (rIx K) (YU 4) (tC (.int 1))) (YV (Xo sp [] E0 (YV (tOp (rIx K) (YU 4) (tC (.int 2))) (YV (YU 1) (YV (YU 2) Y1)))) Y1)))) (Y6 4)) (Xk (Xe (tOp (Zi9 K) (tOp (rIx K) (YU 4) (tC (.int 0))) (Zf K (YV (tC (.str "if")) (YV (tC (.str "try")) Y1))))) (Xb (Xm (tIf (Xe (tOp (ZbB K) (tOp (rIx K) (YU 4) (tC (.int 0))) (tC (.str "if")))) (Xo (Zl K 5) [] E0 (YV (tOp (rIx K) (YU 4) (tC (.int 1))) (YV (YU 1) (YV (YU 2) Y1)))) (tOp (rIx K) (YU 4) (tC (.int 1)))) (Y6 5))
 (Xm (Zf K (YV (tOp (rIx K) (YU 4) (tC (.int 0))) (YV (YU 5) (YV (Xo sp [] E0 (YV (tOp (rIx K) (YU 4) (tC (.int 2))) (YV (YU 1) (YV (YU 2) Y1)))) (YV (Xo sp [] E0 (YV (tOp (rIx K) (YU 4) (tC (.int 3))) (YV (YU 1) (YV (YU 2) Y1)))) Y1))))) (Y6 4))) Xq)))))
 (Zdc K sp))
def Zde(K:YC)(sp:Sp):TS:=(Xb (Xm (Zbi Y1) (Y6 3))
 (Xb (tFor (Zg4 K (YU 0)) (Y6 4) (Zdd K sp))
 (Xj (tThen (YU 3) (kTup K)))))
def ZjA:List Str:=["_law_block", "_law_lost", "_law_other", "_law_found", "_law_row", "_law_head"]
theorem ZkT{n:Nat}{vs:List V}{E:XK}{v:V}{b:List Stm}(ev:vs=[v,.ref lc,.str o])(i:Im K H v (.tuple (blkD b)))(s:SqT K H lc (lost.map V.str))(w:wfL b)(c:cntL b ≤ 1000)(d:depL b < n)(q:∀ v' H',Zb [] H H'→Im K H' v' (.tuple (blkD (plnL lost o b)))→Q v' H'):ZM K n vs H Q E:=⟨v,b,lc,lost,o,ev,i,s,w,c,d,q⟩
local macro_rules | `(tactic| row_readAll ia) => `(tactic| first | exact ImAll.nil | exact ImAll.cons (.str _) (by row_readAll ia) | exact ImAll.cons (by row_readAll im) (by row_readAll ia))
theorem ZtF{n:Nat}{D:Ends}{a:YF}{v:V}{s:Stm}{o5:Option V}{ws:List V}(sT:SqT K H lc (lost.map V.str))(is_:Im K H (.ref a) (Stm.d s))(g:H p=some (.lst ws))(hl:ws.length < 5000)(w:s.wf)(c:s.cnt ≤ 1000)(d:s.dep < n + 1)
  (q:∀ u o4 o5 H',Zb [p] H H'→H' p=some (.lst (ws++[u]))→Im K H' u (s.pln lost o).d→D.nx [some v,some (.ref lc),some (.str o),some (.ref p),o4,o5] H') :
  Zdd K (ZM K n) D [some v,some (.ref lc),some (.str o),some (.ref p),some (.ref a),o5] H:=by
 have sz:=Z3
 have fin:∀ u o5 H',Zb [] H H'→Im K H' u (s.pln lost o).d→Zdc K (ZM K n) D [some v,some (.ref lc),some (.str o),some (.ref p),some u,o5] H':=by
  intro u o5 H' k i
  unfold Zdc
  row_readAll go
  have g':=k.obj _ _ Ya g
  refine⟨.inl ⟨rfl,_,SqL.of g'⟩,?_⟩
  refine ZcY g' (by omega) fun H2 k2 g2=>?_
  exact q u _ _ H2 (k.nil.trans k2) g2 (i.mono k2)
 unfold Zdd
 have is0:=is_
 obtain⟨c1,xs,e,hs,hv⟩:=is_.stm
 cases e
 cases s <;> simp only[Stm.vs]at hv <;> simp only[Stm.wf]at w <;> simp only[Stm.dep]at d <;> simp only[Stm.cnt]at c <;> simp only[Stm.pln,Stm.d]at fin
 case set =>
  obtain⟨v2,rfl,h2⟩:=hv
  row_readAll ga
  refine ZkS rfl (h2.mono (by row_readAll kp)) (by row_readAll sq) (by have:=w.2.dep; omega) fun u2 H2 k2 i2=>?_
  row_readAll ga
  exact fin _ _ _ (by row_readAll kp) (.tup (by row_readAll sq) (by row_readAll ia))
 case shw =>
  obtain⟨v2,rfl,h2⟩:=hv
  row_readAll ga
  refine ZkS rfl (h2.mono (by row_readAll kp)) (by row_readAll sq) (by have:=w.dep; omega) fun u2 H2 k2 i2=>?_
  row_readAll ga
  exact fin _ _ _ (by row_readAll kp) (.tup (by row_readAll sq) (by row_readAll ia))
 case call =>
  obtain⟨v2,rfl,h2⟩:=hv
  row_readAll ga
  refine ZkS rfl (h2.mono (by row_readAll kp)) (by row_readAll sq) (by have:=w.dep; omega) fun u2 H2 k2 i2=>?_
  row_readAll ga
  exact fin _ _ _ (by row_readAll kp) (.tup (by row_readAll sq) (by row_readAll ia))
 case fn =>
  obtain⟨v2,rfl,h2⟩:=hv
  row_readAll ga
  refine ZkT rfl (h2.mono (by row_readAll kp)) (by row_readAll sq) w.2 (by omega) (by omega) fun u2 H2 k2 i2=>?_
  row_readAll ga
  exact fin _ _ _ (by row_readAll kp) (.tup (by row_readAll sq) (by row_readAll ia))
 case ite =>
  obtain⟨v1,v2,v3,rfl,h1,h2,h3⟩:=hv
  row_readAll ga
  refine ZkS rfl (h1.mono (by row_readAll kp)) (by row_readAll sq) (by have:=w.1.dep; omega) fun u1 H1 k1 i1=>?_
  row_readAll ga
  refine ZkT rfl (h2.mono (by row_readAll kp)) (by row_readAll sq) w.2.1 (by omega) (by omega) fun u2 H2 k2 i2=>?_
  row_readAll ga
  refine ZkT rfl (h3.mono (by row_readAll kp)) (by row_readAll sq) w.2.2 (by omega) (by omega) fun u3 H3 k3 i3=>?_
  row_readAll ga
  exact fin _ _ _ (by row_readAll kp) (.tup (by row_readAll sq) (by row_readAll ia))
 case tri =>
  obtain⟨v2,v3,rfl,h2,h3⟩:=hv
  row_readAll ga
  refine ZkT rfl (h2.mono (by row_readAll kp)) (by row_readAll sq) w.2.1 (by omega) (by omega) fun u2 H2 k2 i2=>?_
  row_readAll ga
  refine ZkT rfl (h3.mono (by row_readAll kp)) (by row_readAll sq) w.2.2 (by omega) (by omega) fun u3 H3 k3 i3=>?_
  row_readAll ga
  exact fin _ _ _ (by row_readAll kp) (.tup (by row_readAll sq) (by row_readAll ia))
 case star =>
  subst hv
  row_readAll ga
  exact fin _ _ _ (by row_readAll kp) (.tup (by row_readAll sq) (.cons (.str _) (.cons (.int _) .nil)))
 case del =>
  subst hv
  row_readAll ga
  exact fin _ _ _ (by row_readAll kp) (is0.mono (by row_readAll kp))
 case raise =>
  subst hv
  row_readAll ga
  exact fin _ _ _ (by row_readAll kp) (is0.mono (by row_readAll kp))
 case imp =>
  subst hv
  row_readAll ga
  exact fin _ _ _ (by row_readAll kp) (is0.mono (by row_readAll kp))
 case frm =>
  subst hv
  row_readAll ga
  exact fin _ _ _ (by row_readAll kp) (is0.mono (by row_readAll kp))
theorem Zhc{n:Nat}(vs:List V)(H:Hp)(Q:VK)(E:XK)(h:ZM K (n + 1) vs H Q E):Zde K (ZM K n) { nx:=fun _ H'=>Q .non H',rt:=Q } (start ZjA vs) H:=by
 obtain⟨v,b,lc,lost,o,rfl,hi,sl,hw,hc,hd,q⟩:=h
 show Zde K _ _ [some v,some (.ref lc),some (.str o),none,none,none] H
 unfold Zde
 have sz:=Z3
 obtain⟨c,xs,rfl,sT,iT⟩:=hi.of_tup
 have lb:=Zh8 b
 have lx:=iT.length
 rw[Z_,Yb]at lx
 row_readAll go
 refine Zbr (by row_readAll ln) fun p H1 f1 k1 g1=>?_
 row_readAll go
 refine .inr ⟨⟨_,k1.sqT sT⟩,?_⟩
 obtain⟨Pv,hPv⟩:∃ Pv:Nat→L2.St→Hp→Prop,∀ i σ H,Pv i σ H↔(∃ o4 o5 ws,σ = [some (.ref c),some (.ref lc),some (.str o),some (.ref p),o4,o5]∧Zb [p] H1 H∧H p=some (.lst ws)∧ImAll K H ws ((b.take i).map fun s=>(s.pln lost o).d)):=⟨_,fun _ _ _=>Iff.rfl⟩
 refine Zgr (S:=[p]) (Wk.tup (k1.sqT sT)) Pv (fun i' σ' H' z=>by obtain⟨_,_,_,_,k,_⟩:=(hPv _ _ _).mp z; exact k) ((hPv _ _ _).mpr ⟨_,_,[],rfl,Zb.refl _ _,g1,.nil⟩) ?_ ?_
 ·intro j y σ1 H2 H3 hy hp k3
  obtain⟨o4,o5,ws,rfl,k2,g2,i2⟩:=(hPv _ _ _).mp hp
  obtain⟨dd,hdd,iy⟩:=iT.get hy
  rw[Z_,Ym,Option.map_eq_some_iff]at hdd
  obtain⟨s,hs,rfl⟩:=hdd
  have k13:Zb [] H H3:=(k1.step1 k2 f1).trans k3
  have lw:=i2.length
  rw[Yb,Yu]at lw
  have c1:=Zh7 hs
  have d1:=Zgd hs
  have iy3:Im K H3 y s.d:=iy.mono k13
  obtain⟨a4,x4,rfl,s4,v4⟩:=iy3.stm
  row_readAll go
  refine ZtF (k13.sqT sl) iy3 (k3.obj _ _ Ya g2) (by omega) (ZlZ hs hw) (by omega) (by omega) fun u o4' o5' H4 k4 g4 i4=>?_
  refine(hPv _ _ _).mpr ⟨_,_,_,rfl,(k2.step0 k3).trans k4,g4,?_⟩
  rw[take_snoc hs,Yl]
  exact((i2.mono k3).mono k4).append (.cons i4 .nil)
 ·intro σ1 H2 hp
  obtain⟨o4,o5,ws,rfl,k2,g2,i2⟩:=(hPv _ _ _).mp hp
  rw[lx,Yt]at i2
  row_readAll go
  refine ZhD (SqL.of g2) fun l H8 f8 k8 s8=>?_
  refine q _ H8 ((k1.step1 k2 f1).trans k8) (.tup s8 ?_)
  rw[Zh_,Z_,Yx]
  exact i2.mono k8
end
end M
namespace M
open PySem L2
def ZaM(K:YC):Sp:=fun vs H Q _=>∃ h c,∃ most:Nat,vs=[.ref h,.int most]∧Drw H h c∧most ≤ 4 ∧
 ∀ p ml nl d ms ns P H',SqT K H' p [.ref ml,.ref nl,.ref d]→MN H' h c ml nl ms ns→Zbc K H' d P→ZdJ ms ns P→(∀ x∈P,cntL x.2 ≤ 6 + 13 * most∧x.2.length ≤ 3 + most)→H ml=none→H nl=none→H d=none→ml≠nl→d≠ml→d≠nl→Zb [h,c] H H'→Q (.ref p) H'
theorem ZfK{K:YC}(vs:List V)(H:Hp)(Q:VK)(E:XK)(h:ZaM K vs H Q E):Zcb K { nx:=fun _ H'=>Q .non H',rt:=Q } (start Zh1 vs) H:=by
 obtain⟨h,c,most,rfl,D,hm,q⟩:=h
 show Zcb K _ [some (.ref h),some (.int most),none,none,none,none] H
 unfold Zcb
 have sl:=Z3
 row_readAll go
 refine⟨h,c,4,rfl,D,by decide,by decide,fun ml ms H1 f1 ne1 l1 ok1 nd1 g1 k1 D1=>?_⟩
 row_readAll go
 refine⟨h,c,3,rfl,D1,by decide,by decide,fun nl ns H2 f2 ne2 l2 ok2 nd2 g2 k2 D2=>?_⟩
 row_readAll go
 have a1:=D.ne1 f1
 have a2:=D1.ne1 f2
 have n12:ml≠nl:=fun e=>by subst e; rw[f2]at g1; cases g1
 have X2:MN H2 h c ml nl ms ns:=⟨D2,⟨k2.obj _ _ (by simp[a1.1,a1.2]) g1,ne1,by omega,ok1,a1.1,a1.2⟩,⟨g2,ne2,by omega,ok2,a2.1,a2.2⟩⟩
 try rw[Znm]
 refine ZpR fun d H3 f3 k3 g3=>?_
 have X3:=X2.k0 k3
 have nf:=X2.fresh f3
 row_readAll go
 refine .inl ⟨⟨_,SqL.of X3.m.at_⟩,?_⟩
 have fl2:H nl=none:=k1.free f2
 have fd:H d=none:=k1.free (k2.free f3)
 have sub3:∀ b∈[h,c],b∈[h,c,d]:=by intro a m; simp at m ⊢; rcases m with rfl | rfl <;> simp
 refine Zgr (S:=[h,c,d]) (Wk.lst (SqL.of X3.m.at_) (by simp[a1.1,a1.2,Ne.symm nf.2.2.1])) (fun i σ' H'=>∃ o3 P,σ'=[some (.ref h),some (.int most),some (.ref d),o3,some (.ref ml),some (.ref nl)]∧Zbc K H' d P∧P.map (·.1)=ms.take i∧(∀ x∈P,ZoT ms ns x.2∧cntL x.2 ≤ 6 + 13 * most∧x.2.length ≤ 3 + most)∧Zb [h,c,d] H3 H'∧Zb [h,c] H H'∧MN H' h c ml nl ms ns)
  (fun i σ' H' p=>by obtain⟨_,_,_,_,_,_,k,_,_⟩:=p; exact k)
  ⟨none,[],rfl,⟨[],g3,.nil⟩,by simp,by simp,Zb.refl _ _,(k1.trans k2).step0 k3,X3⟩ ?_ ?_
 ·rintro i x σ' H4 H5 hx ⟨o3,P,rfl,dp,kP,bP,kD,kH,X4⟩ k5
  rw[Ym,Option.map_eq_some_iff]at hx
  obtain⟨z,hz,rfl⟩:=hx
  have hi:=Zdl hz
  have X5:=X4.k0 k5
  row_readAll go
  refine⟨h,c,ml,nl,ms,ns,rfl,X5,fun v6 b6 H6 i6 r6 l6 k6 X6=>?_⟩
  row_readAll go
  refine Zke (d:=0) (most:=most) X6 rfl rfl (by decide) (by decide) (by omega) fun v7 b7 H7 i7 r7 l7 k7 X7=>?_
  obtain⟨a6,xs6,rfl,s6,ha6⟩:=i6.of_tup
  obtain⟨a7,xs7,rfl,s7,ha7⟩:=i7.of_tup
  have e6:=ha6.length
  have e7:=ha7.length
  rw[ZcZ]at e6 e7
  refine Zim (k7.sqT s6) s7 (by omega) fun p8 H8 k8 g8=>?_
  row_readAll go
  have i8:Im K H8 (.ref p8) (.tuple (blkD (b6++b7))):=by
   rw[Zjr]
   exact .tup g8 (((ha6.mono k7).mono k8).append (ha7.mono k8))
  have k58:Zb [h,c] H4 H8:=((k5.nil.trans k6).trans k7).step0 k8
  obtain⟨m,gm,rm⟩:=dp.keep k58 (by simp[nf.1,nf.2.1])
  have lm:=rm.length
  have lP:P.length=i:=by
   have:=congrArg List.length kP
   rw[Yb,Yu]at this
   omega
  refine Zj8 gm (by omega) fun H9 k9 g9=>?_
  have ne:z∉P.map (·.1):=by
   rw[kP]
   intro hm2
   obtain⟨j,hj⟩:=YA hm2
   have hj2:=(Yk.mp hj).1
   rw[Yu]at hj2
   rw[List.getElem?_take_of_lt (by omega)]at hj
   have hlt:i < ms.length:=hi
   have e1:ms[j]'(by omega)=z:=(Yk.mp hj).2
   have e2:ms[i]=z:=(Yk.mp hz).2
   have:=(List.getElem_inj (h₀:=by omega) (h₁:=hlt) nd1).mp (e1.trans e2.symm)
   omega
  have eP:Zcw P z (b6++b7)=P++[(z,b6++b7)]:=by
   unfold Zcw
   rw[if_neg]
   intro hh
   rw[List.any_eq_true]at hh
   obtain⟨p,hp,e⟩:=hh
   exact ne (by rw[← of_decide_eq_true e]; exact Yv (f:=(·.1)) hp)
  have rm2:Zc1 kS (Zq5 K H9) (putK m (kS z) (.ref p8)) (P++[(z,b6++b7)]):=by
   rw[← eP]
   exact(rm.put Zdm (k:=z) (v:=.ref p8) (x:=b6++b7) i8).mono fun v b ib=>ib.mono k9
  refine⟨_,P++[(z,b6++b7)],rfl,⟨_,g9,rm2⟩,?_,?_,?_,?_,?_⟩
  ·rw[Yl,kP,take_snoc hz]; rfl
  ·intro y my
   simp only[Yh,Ye]at my
   rcases my with my | rfl
   ·exact bP y my
   ·refine⟨.of r6 (by have:=l2; omega) r7 l7 hm,?_,by rw[Yc]; omega⟩
    obtain⟨_,_,_,c⟩:=ZgK r7
    rw[ZbJ]
    have:=r6.cnt
    have e:stN 0=13:=rfl
    rw[e]at c
    omega
  ·exact(kD.trans (k58.mono sub3)).trans (k9.mono (by intro a m; simp at m ⊢; simp[m]))
  ·exact(kH.trans k58).step1 k9 fd
  ·exact(X7.k0 k8).put k9 nf.1 nf.2.1 nf.2.2.1 nf.2.2.2
 ·rintro σ' H4 ⟨o3,P,rfl,dp,kP,bP,kD,kH,X4⟩
  row_readAll go
  refine Zj (by row_readAll ln) fun p H5 f5 k5 g5=>?_
  rw[Yb,Yt]at kP
  exact q p ml nl d ms ns P H5 g5 (X4.k0 k5) (dp.k0 k5) ⟨nd1,nd2,by omega,by omega,ne1,ne2,ok1,ok2,kP,fun x m=>(bP x m).1⟩ (fun x m=>(bP x m).2) f1 fl2 fd n12 nf.2.2.1 nf.2.2.2 (kH.step0 k5)
end M
namespace M
open PySem L2 L2H SlX
section
variable {K:YC} {H:Hp}
end
structure ZtO(r:Str×Wd×List Plc):Prop where
 sh:SeqAt.shaped (.tuple (r.2.1.shown.map Vl.d))=true
 ev:SeqAt.shaped (.tuple (r.2.1.ev.map evD))=true
 tr:SeqAt.shaped (.tuple (r.2.2.map Zow))=true
 vs:∀ p∈r.2.1.vs,SeqAt.shaped p.2.d=true
 nd:(r.2.1.vs.map (·.1)).Nodup
section
variable {K:YC} {c:CA} {CO:YF} {H:Hp} {Q:VK}
theorem ZiZ{C pd:YF}{P:Prg}{QA:YF→Hp→Prop}(dp:Zbc K H pd P)(ok:Zbm P)(q:∀ A dA nl e H',Zbs K H' C A (Zas P) [A,dA,nl,e]→(∀ b∈[A,dA,nl,e],H b=none)→Zb [] H H'→QA A H') :
  ∀ A dA,H A=none→H dA=none→dA≠A→Zi K C [.ref A,.ref pd] (upd (upd H dA (.own A)) A (.ins C dA [])) (fun v H2=>v = .non∧QA A H2) E0:=by
 intro A dA fA fdA nAd
 have kn:Zb [] H (upd (upd H dA (.own A)) A (.ins C dA [])):=(Zb.new fdA).trans (Zb.new (by rw[upd_ne (Ne.symm nAd)]; exact fA))
 have hA:upd (upd H dA (.own A)) A (.ins C dA []) A=some (.ins C dA []):=Y_
 have hdA:upd (upd H dA (.own A)) A (.ins C dA []) dA=some (.own A):=by rw[upd_ne nAd]; exact Y_
 generalize upd (upd H dA (.own A)) A (.ins C dA [])=H8 at kn hA hdA ⊢
 refine⟨A,dA,pd,P,rfl,hA,hdA,nAd,dp.k0 kn,ok,fun nl e H9 x9 f1 f2 k9=>⟨rfl,q A dA nl e H9 x9 (fun b hb=>?_) (kn.step k9 (Zh2 (.inr fA) (Zh2 (.inr fdA) ZlK)))⟩⟩
 simp only[Yn,Ya,or_false]at hb
 rcases hb with rfl | rfl | rfl | rfl
 ·exact fA
 ·exact fdA
 ·exact kn.free f1
 ·exact kn.free f2
theorem Zsu{v:V}{xs:List V}:atI (v :: xs) 0=some v:=atI_nat (j:=0) rfl
end
end M
namespace M
open PySem PySem.Spec PyProof.Rows L2 L2H SlX
local macro_rules | `(tactic| row_readAll n4) => `(tactic| simp only [Zcc, Zcd, Zc7, Zh4, Zce, Zfx, Zc8, Zg6])
local macro_rules | `(tactic| row_readAll gg) => `(tactic| ((try row_readAll go); (try row_readAll n4); (try row_readAll go); (try row_readAll n4); (try row_readAll go)))
def onR(p:Str→Bool):V→Bool
 | .str z=>p z
 | _=>true
section
variable {K:YC} {H H':Hp} {Q:VK}
theorem ZmZ{p:Str→Bool}(ks:List Str):(ks.map V.str).filter (onR p)=(ks.filter p).map V.str:=by
 rw[List.filter_map]
 rfl
theorem ZfL{J:It}{ks:List Str}{σ:L2.St}{tt:TT}{j:Nat}(p:Str→Bool)(w:Wk [] J (ks.map V.str) H)(hl:ks.length ≤ YM)(hj:j < σ.length)
  (ht:∀ (z:Str) (H2:Hp) (R:Bool→Hp→Prop),z∈ks→Zb [] H H2→(∀ H3,Zb [] H2 H3→R (p z) H3)→tt ((σ.set j none).set j (some (.str z))) H2 R)
  (q:∀ D H2,H D=none→Zb [] H H2→H2 D=some (.lst ((ks.filter p).map V.str))→Q (.ref D) H2):Zk7 J (Y6 j) tt (YU j) [j] σ H Q:=by
 refine Zff (onR p) w (by rw[Yb]; exact hl) hj (fun i y H2 R hy k r=>?_) fun D H2 f k g=>q D H2 f k (by rw[g,ZmZ])
 rw[Ym,Option.map_eq_some_iff]at hy
 obtain⟨z,hz,rfl⟩:=hy
 exact ht z H2 R (Yj hz) k r
theorem Zia{l ok:List Str}(nd:ok.Nodup)(hs:∀ x∈ok,x∈l){ns:List Str}(h:ns.length < ok.length):∃ u rest,l.filter (fun z=>!decide (z∈ns))=u :: rest∧u∈l∧u∉ns:=by
 have key:∃ u rest,l.filter (fun z=>!decide (z∈ns))=u :: rest:=by
  cases e:l.filter (fun z=>!decide (z∈ns))with
  | cons u r=>exact⟨u,r,rfl⟩
  | nil =>
    exfalso
    have:=Zfw (m:=ns) nd fun z hz=>by
     by_cases hm:z∈ns
     ·exact hm
     ·have:z∈l.filter (fun z=>!decide (z∈ns)):=List.mem_filter.mpr ⟨hs z hz,by simpa using hm⟩
      rw[e]at this
      cases this
    omega
 obtain⟨u,rest,e⟩:=key
 have mu:u∈l.filter (fun z=>!decide (z∈ns)):=by rw[e]; exact Yg
 obtain⟨hu,nu⟩:=List.mem_filter.mp mu
 exact⟨u,rest,e,hu,by simpa using nu⟩
def qs5:List Str:=["q", "qq", "qqq", "qqqq", "qqqqq"]
theorem ZqC:∀ u∈qs5,okN u:=fun u h=>ZiJ ((by decide +kernel:∀ u∈qs5,ZeM u=true) u h)
theorem ZqD:qs5.Nodup:=by decide +kernel
def zs3:List Str:=["z", "zz", "zzz"]
theorem Zny:∀ u∈zs3,okN u:=fun u h=>ZiJ ((by decide +kernel:∀ u∈zs3,ZeM u=true) u h)
theorem Znz:zs3.Nodup:=by decide +kernel
def Zb3(K:YC):Sp:=fun vs H Q _=>∃ (h c nl:YF) (names:List Str),vs=[.ref h,.ref nl]∧Drw H h c∧H nl=some (.lst (names.map V.str))∧nl≠h∧nl≠c∧names.length ≤ 4∧∀ x H',okN x→x∉names→Zb [h,c] H H'→Drw H' h c→Q (.str x) H'
def Zdf(K:YC)  : TS:=(Xb (Xm (Xo (ZaF K) [] E0 (YV (YU 0) Y1)) (Y6 2))
 (Xj (tOp (rIx K) (tLc (Zg4 K (Zbi (YV (YU 2) (YV (tC (.str "q")) (YV (tC (.str "qq")) (YV (tC (.str "qqq")) (YV (tC (.str "qqqq")) (YV (tC (.str "qqqqq")) Y1)))))))) (Y6 3) (Xe (tOp (ZbD K) (YU 3) (YU 1))) (YU 3) [3]) (tC (.int 0)))))
def ZjB:List Str:=["_law_h", "_law_names_here", "_law_name_here", "_law_each"]
theorem Zhd(vs:List V)(H:Hp)(Q:VK)(E:XK)(h:Zb3 K vs H Q E):Zdf K { nx:=fun _ H'=>Q .non H',rt:=Q } (start ZjB vs) H:=by
 obtain⟨h,c,nl,names,rfl,D,g,n1,n2,ln,q⟩:=h
 show Zdf K _ [some (.ref h),some (.ref nl),none,none] H
 unfold Zdf
 have sz:=Z3
 row_readAll go
 refine⟨h,c,rfl,D,fun x H1 ox k1 D1=>?_⟩
 row_readAll go
 refine Zbr (by row_readAll ln) fun p H2 f2 k2 g2=>?_
 have g2':H2 p=some (.lst ((x :: qs5).map V.str)):=g2
 row_readAll go
 refine .inl ⟨⟨_,SqL.of g2'⟩,?_⟩
 have gn:H2 nl=some (.lst (names.map V.str)):=k2.obj _ _ Ya (k1.obj _ _ (by simp[n1,n2]) g)
 refine ZfL (ks:=x :: qs5) (fun z=>!decide (z∈names)) (Wk.lst (SqL.of g2') Ya) (by rw[sz]; simp[qs5]) (by simp) (fun z H3 R hz k r=>?_) fun p3 H3 f3 k3 g3=>?_
 ·row_readAll go
  refine Zni (SqL.of (k.obj _ _ Ya gn)) ?_
  row_readAll go
  exact r H3 (Zb.refl _ _)
 ·obtain⟨u,rest,eu,hu,nu⟩:=Zia (l:=x :: qs5) ZqD (fun y hy=>Yf _ hy) (ns:=names) (by show names.length < 5; omega)
  rw[eu]at g3
  row_readAll go
  refine Zaz (SqL.of g3) (Zsu (v:=V.str u) (xs:=rest.map V.str)) ?_
  refine q u H3 ?_ nu ((k1.step0 k2).step0 k3) ((D1.k0 k2).k0 k3)
  rcases Yn.mp hu with rfl | hu
  ·exact ox
  ·exact ZqC u hu
mutual
theorem Zm0{ms ns:List Str}:∀ (s:Stm) (p:Pth),s.over ms ns→∀ r∈s.sub p,r.2.over ms ns
 | .fn _ b,p,h,r,m=>by
   simp only[Stm.over]at h; simp only[Stm.sub]at m
   exact walk_over b (p++[0]) 0 h.2 r m
 | .ite _ b o,p,h,r,m=>by
   simp only[Stm.over]at h; simp only[Stm.sub,Yh]at m
   rcases m with m | m
   ·exact walk_over b (p++[0]) 0 h.2.1 r m
   ·exact walk_over o (p++[1]) 0 h.2.2 r m
 | .tri _ b o,p,h,r,m=>by
   simp only[Stm.over]at h; simp only[Stm.sub,Yh]at m
   rcases m with m | m
   ·exact walk_over b (p++[0]) 0 h.1 r m
   ·exact walk_over o (p++[1]) 0 h.2 r m
 | .set ..,_,_,r,m=>by simp[Stm.sub]at m
 | .del ..,_,_,r,m=>by simp[Stm.sub]at m
 | .shw ..,_,_,r,m=>by simp[Stm.sub]at m
 | .call ..,_,_,r,m=>by simp[Stm.sub]at m
 | .raise,_,_,r,m=>by simp[Stm.sub]at m
 | .imp ..,_,_,r,m=>by simp[Stm.sub]at m
 | .frm ..,_,_,r,m=>by simp[Stm.sub]at m
 | .star ..,_,_,r,m=>by simp[Stm.sub]at m
theorem walk_over{ms ns:List Str}:∀ (b:List Stm) (p:Pth) (i:Nat),overL ms ns b→∀ r∈walkL p i b,r.2.over ms ns
 | [],_,_,_,r,m=>by simp[walkL]at m
 | s :: b,p,i,h,r,m=>by
   simp only[overL]at h; simp only[walkL,Yn,Yh]at m
   rcases m with rfl | m | m
   ·exact h.1
   ·exact Zm0 s (p++[i]) h.1 r m
   ·exact walk_over b p (i + 1) h.2 r m
end
theorem Zib{ns:List Str}{m:Str}:∀ {e:Ex},e.over ns→∀ k x,((some k,x):PlN)∈plE m e→x∈ns
 | .int _,_,k,x,h=>by rw[Ze4]at h; cases h
 | .nm n,w,k,x,h=>by rw[Zkm,Ye]at h; cases h; exact w
 | .of n a,w,k,x,h=>by
   rw[ZcR]at h
   simp only[Yn,Ya,or_false,Prod.mk.injEq,reduceCtorEq,false_and]at h
   rw[h.2]; exact w.1
 | .bin s l r,w,k,x,h=>by
   rw[Ze3,Yh]at h
   rcases h with h | h
   ·exact Zib w.1 k x h
   ·exact Zib w.2 k x h
theorem Zm1{ms ns:List Str}{m:Str}{s:Stm}(w:s.over ms ns):∀ k x,((some k,x):PlN)∈plS m s→x∈ns:=by
 intro k x h
 have e1:∀ e:Ex,s.exprs=[e]→e.over ns→(((some k,x):PlN)∈plT m s→x∈ns)→x∈ns:=by
  intro e he w hT
  rw[ZeH m s e he,Yh]at h
  rcases h with h | h
  ·exact Zib w k x h
  ·exact hT h
 have e0:s.exprs=[]→(((some k,x):PlN)∈plT m s→x∈ns)→x∈ns:=by
  intro he hT
  rw[ZkR m s he]at h
  exact hT h
 cases s <;> simp only[Stm.over]at w
 case set n e=>exact e1 e rfl w.2 fun z=>by simp only[plT,Ye,Prod.mk.injEq]at z; rw[z.2]; exact w.1
 case shw e=>exact e1 e rfl w fun z=>by simp[plT]at z
 case call e=>exact e1 e rfl w fun z=>by simp[plT]at z
 case ite e b c=>exact e1 e rfl w.1 fun z=>by simp[plT]at z
 case del n=>exact e0 rfl fun z=>by simp only[plT,Ye,Prod.mk.injEq]at z; rw[z.2]; exact w
 case raise=>exact e0 rfl fun z=>by simp[plT]at z
 case imp t n=>exact e0 rfl fun z=>by simp only[plT,Ye,Prod.mk.injEq]at z; rw[z.2]; exact w.2
 case frm t u n =>
  refine e0 rfl fun z=>?_
  simp only[plT,Yn,Ya,or_false,Prod.mk.injEq]at z
  rcases z with z | z
  ·rw[z.2]; exact w.2.1
  ·rw[z.2]; exact w.2.2
 case star t=>exact e0 rfl fun z=>by simp[plT]at z
 case fn n b=>exact e0 rfl fun z=>by simp only[plT,Ye,Prod.mk.injEq]at z; rw[z.2]; exact w.1
 case tri t b c=>exact e0 rfl fun z=>by simp[plT]at z
theorem ZdJ.nmin{ms ns:List Str}{P:Prg}(h:ZdJ ms ns P):ZqB P ns:=by
 intro m x hx
 obtain⟨y,hy,hz⟩:=List.mem_flatMap.mp hx
 obtain⟨b,hb,hw⟩:=ZgP hy
 exact Zm1 (walk_over b [] 0 (h.blk _ hb).over _ hw) m x hz
def ZkU(lost:List Str)(o:Str)(P:Prg)(i:Nat):Prg:=Zhb lost o (P.take i)++P.drop i
theorem Zm2{lost:List Str}{o:Str}{P:Prg}(nd:(P.map (·.1)).Nodup){i:Nat}{n:Str}{b:List Stm}(e:P[i]? = some (n,b)):Zcw (ZkU lost o P i) n (plnL lost o b)=ZkU lost o P (i + 1):=by
 have hi:=Zdl e
 have ed:P.drop i=(n,b) :: P.drop (i + 1):=by
  rw[← List.getElem_cons_drop hi,(Yk.mp e).2]
 have sp:P=P.take i++(n,b) :: P.drop (i + 1):=by rw[← ed,List.take_append_drop]
 rw[sp,Yl,Yr,List.nodup_append,List.nodup_cons]at nd
 obtain⟨_,⟨n2,_⟩,n1⟩:=nd
 have id1:∀ l:Prg,(∀ x∈l,x.1≠n)→l.map (fun kv=>if kv.1=n then(kv.1,plnL lost o b)else kv)=l:=by
  intro l hl
  refine(List.map_congr_left fun x hx=>?_).trans (List.map_id _)
  rw[if_neg (hl x hx)]; rfl
 unfold ZkU
 rw[ed,take_snoc e]
 unfold Zcw
 rw[if_pos (List.any_eq_true.mpr ⟨(n,b),Yp _ Yg,by simp⟩),Yl,Yr,if_pos rfl]
 rw[id1 _ fun x hx=>?_,id1 _ fun x hx=>?_]
 ·unfold Zhb
  rw[Yl,Ys]
  rfl
 ·intro z
  exact n2 (by rw[← z]; exact Yv (f:=(·.1)) hx)
 ·unfold Zhb at hx
  obtain⟨y,hy,rfl⟩:=Yq.mp hx
  intro z
  exact n1 y.1 (Yv (f:=(·.1)) hy) n Yg z
theorem Zm3{lost:List Str}{o:Str}{P:Prg}(nd:(P.map (·.1)).Nodup){i:Nat}{n:Str}{b:List Stm}(e:P[i]? = some (n,b)):(n,b)∈ZkU lost o P i∧((ZkU lost o P i).map (·.1)).Nodup:=by
 have hi:=Zdl e
 refine⟨Yp _ ?_,?_⟩
 ·rw[← List.getElem_cons_drop hi,(Yk.mp e).2]
  exact Yg
 ·unfold ZkU
  rw[Yl,ZgT,← Yl,List.take_append_drop]
  exact nd
theorem Zm4(lost:List Str)(o:Str)(P:Prg):ZkU lost o P P.length=Zhb lost o P:=by unfold ZkU; rw[Yt,List.drop_length,List.append_nil]
theorem Zm5(lost:List Str)(o:Str)(P:Prg)(i:Nat):(ZkU lost o P i).length=P.length:=by
 unfold ZkU Zhb
 rw[Yc,Yb,← Yc,List.take_append_drop]
structure RnD(ms ns:List Str)(P:Prg)(t old new:Str):Prop where
 ex:∃ P0 o,ZdJ ms ns P0∧(∀ x∈P0,cntL x.2 ≤ 58∧x.2.length ≤ 7)∧okN o∧o∉[old,new]∧P=Zhb [old,new] o P0
 t:t∈ms
 old:old∈ns
 nnew:new∉ns
 okn:okN new
theorem ZqE{σ:L2.St}{R:L2.St→Hp→Prop}{a:YF}{x y z u v w:V}{i j k l m n:Nat}(h:SqT K H a [x,y,z,u,v,w])(q:R ((((((σ.set i (some x)).set j (some y)).set k (some z)).set l (some u)).set m (some v)).set n (some w)) H):gTup K 6 (gCons (Y6 i) (gCons (Y6 j) (gCons (Y6 k) (gCons (Y6 l) (gCons (Y6 m) (gCons (Y6 n) gNil)))))) (.ref a) σ H R :=
 ⟨a,[x,y,z,u,v,w],rfl,h,rfl,x,_,rfl,y,_,rfl,z,_,rfl,u,_,rfl,v,_,rfl,w,[],rfl,rfl,q⟩
def Zat(K:YC):Sp:=fun vs H Q _=>∃ h c,vs=[.ref h]∧Drw H h c ∧
 ∀ p ml nl d ms ns P t old new H',SqT K H' p [.ref ml,.ref nl,.ref d,.str t,.str old,.str new]→MN H' h c ml nl ms ns→Zbc K H' d P→RnD ms ns P t old new→H ml=none→H nl=none→H d=none→ml≠nl→d≠ml→d≠nl→Zb [h,c] H H'→Q (.ref p) H'
def ZcS(K:YC)  : TS:=(Xj (Zf K (YV (YU 4) (YV (YU 5) (YV (YU 6) (YV (YU 7) (YV (YU 8) (YV (YU 1) Y1))))))))
def ZbN(K:YC)  : TS:=(Xb (tFor (Zg4 K (YU 4)) (Y6 3) (Xm (Xo (ZM K 5) [] E0 (YV (tOp rIxD (YU 6) (YU 3)) (YV (Zf K (YV (YU 8) (YV (YU 1) Y1))) (YV (YU 2) Y1)))) (gSub (YU 6) (YU 3) rSetD)))
 (ZcS K ))
def ZcT(K:YC)  : TS:=(Xb (Xm (tOp (rIx K) (tLc (Zg4 K (Zbi (YV (tC (.str "z")) (YV (tC (.str "zz")) (YV (tC (.str "zzz")) Y1))))) (Y6 9) (Xe (tOp (ZbD K) (YU 9) (Zf K (YV (YU 8) (YV (YU 1) Y1))))) (YU 9) [9]) (tC (.int 0))) (Y6 2))
 (ZbN K ))
def ZcU(K:YC)  : TS:=(Xb (Xm (Xo (Zb3 K) [] E0 (YV (YU 0) (YV (YU 5) Y1))) (Y6 1))
 (ZcT K ))
def ZcV(K:YC)  : TS:=(Xb (Xm (Zf K (YV (tOp (rIx K) (YU 4) (Xo (Zd K) [] E0 (YV (YU 0) (YV (tCB (rLen K) (YV (YU 4) Y1)) Y1)))) (YV (tOp (rIx K) (YU 5) (Xo (Zd K) [] E0 (YV (YU 0) (YV (tCB (rLen K) (YV (YU 5) Y1)) Y1)))) Y1))) (gTup K 2 (gCons (Y6 7) (gCons (Y6 8) gNil))))
 (ZcU K ))
def Zbz(K:YC)  : TS:=(Xb (Xm (Xo (ZaM K) [] E0 (YV (YU 0) (YV (tC (.int 4)) Y1))) (gTup K 3 (gCons (Y6 4) (gCons (Y6 5) (gCons (Y6 6) gNil)))))
 (ZcV K ))
def ZgV:List Str:=["_law_h", "_law_new", "_law_other", "_law_module", "_law_modules", "_law_names_here", "_law_program_here", "_law_target", "_law_old", "_law_each"]
section
variable {D:Ends} {h c ml nl d:YF} {ms ns:List Str} {P:Prg} {t old new o:Str}
theorem ZtG{v3 v9:Option V}(M:MN H h c ml nl ms ns)(dp:Zbc K H d P)(nd:(P.map (·.1)).Nodup)(few:P.length ≤ 4)(keys:P.map (·.1)=ms)(blk:∀ x∈P,wfL x.2∧cntL x.2 ≤ 1000∧depL x.2 < 5)(hd:d≠ml∧d≠nl∧d∉[h,c])
  (q:∀ p H',SqT K H' p [.ref ml,.ref nl,.ref d,.str t,.str old,.str new]→MN H' h c ml nl ms ns→Zbc K H' d (Zhb [old,new] o P)→Zb [d] H H'→D.rt (.ref p) H') :
  ZbN K D [some (.ref h),some (.str new),some (.str o),v3,some (.ref ml),some (.ref nl),some (.ref d),some (.str t),some (.str old),v9] H:=by
 unfold ZbN
 have sz:=Z3
 row_readAll go
 refine .inl ⟨⟨_,SqL.of M.m.at_⟩,?_⟩
 have nh:d≠h∧d≠c:=by simpa using hd.2.2
 obtain⟨Pv,hPv⟩:∃ Pv:Nat→L2.St→Hp→Prop,∀ i σ H',Pv i σ H'↔(∃ o3,σ = [some (.ref h),some (.str new),some (.str o),o3,some (.ref ml),some (.ref nl),some (.ref d),some (.str t),some (.str old),v9]∧Zb [d] H H'∧Zbc K H' d (ZkU [old,new] o P i)):=⟨_,fun _ _ _=>Iff.rfl⟩
 refine Zgr (S:=[d]) (Wk.lst (SqL.of M.m.at_) (by simpa using Ne.symm hd.1)) Pv (fun i' σ' H' z=>by obtain⟨_,_,k,_⟩:=(hPv _ _ _).mp z; exact k) ((hPv _ _ _).mpr ⟨_,rfl,Zb.refl _ _,by simpa[ZkU,Zhb]using dp⟩) ?_ ?_
 ·intro i y σ1 H2 H3 hy hp k3
  obtain⟨o3,rfl,k2,dp2⟩:=(hPv _ _ _).mp hp
  rw[← keys,Ym,Ym,Option.map_eq_some_iff]at hy
  obtain⟨n,hy,rfl⟩:=hy
  rw[Option.map_eq_some_iff]at hy
  obtain⟨⟨n,b⟩,hy,rfl⟩:=hy
  obtain⟨mb,ndm⟩:=Zm3 (lost:=[old,new]) (o:=o) nd hy
  have eb:valA (ZkU [old,new] o P i) n=some b:=Zc0 ndm mb
  have mb0:=Yj hy
  obtain⟨w1,w2,w3⟩:=blk _ mb0
  have dp3:=dp2.k0 k3
  obtain⟨v,b',e1,i1,gv⟩:=dp3.val (n:=n) (Yv (f:=(·.1)) mb)
  rw[eb]at e1
  cases e1
  row_readAll go
  refine gv _ ?_
  refine Zj (by row_readAll ln) fun lc H4 f4 k4 s4=>?_
  refine ZkT (lost:=[old,new]) rfl (i1.mono k4) s4 w1 w2 w3 fun u H5 k5 i5=>?_
  row_readAll go
  obtain⟨m5,g5,r5⟩:=(dp3.k0 k4).k0 k5
  have l5:=r5.length
  rw[Zm5]at l5
  refine Zj8 g5 (by omega) fun H6 k6 g6=>?_
  refine(hPv _ _ _).mpr ⟨_,rfl,(k2.step0 ((k3.trans k4).trans k5)).trans k6,_,g6,?_⟩
  rw[← Zm2 nd hy]
  exact(r5.put Zdm (k:=n) (v:=u) (x:=plnL [old,new] o b) i5).mono fun v b i=>i.mono k6
 ·intro σ1 H2 hp
  obtain⟨o3,rfl,k2,dp2⟩:=(hPv _ _ _).mp hp
  have e:(ms.map V.str).length=P.length:=by rw[← keys,Yb,Yb]
  rw[e,Zm4]at dp2
  unfold ZcS
  row_readAll go
  refine Zj (by row_readAll ln) fun p H3 f3 k3 s3=>?_
  have kd:Zb [d] H H3:=k2.step0 k3
  have nhc:h∉[d]∧c∉[d]:=⟨by simpa using Ne.symm nh.1,by simpa using Ne.symm nh.2⟩
  have D3:Drw H3 h c:=M.d.keep kd nhc.1 nhc.2
  refine q p H3 s3 ⟨D3,⟨kd.obj _ _ (by simpa using Ne.symm hd.1) M.m.at_,M.m.ne,M.m.few,M.m.ok,M.m.n1,M.m.n2⟩,⟨kd.obj _ _ (by simpa using Ne.symm hd.2.1) M.n.at_,M.n.ne,M.n.few,M.n.ok,M.n.n1,M.n.n2⟩⟩ (dp2.k0 k3) kd
theorem ZfA(vs:List V)(H:Hp)(Q:VK)(E:XK)(h:Zat K vs H Q E):Zbz K { nx:=fun _ H'=>Q .non H',rt:=Q } (start ZgV vs) H:=by
 obtain⟨h,c,rfl,D,q⟩:=h
 show Zbz K _ [some (.ref h),none,none,none,none,none,none,none,none,none] H
 unfold Zbz
 have sz:=Z3
 row_readAll go
 refine⟨h,c,4,rfl,D,by decide,fun p ml nl d ms ns P H1 s1 M1 dp1 dr few fm fn fd nmn ndm ndn k1=>?_⟩
 row_readAll go
 refine ZlN s1 ?_
 row_readAll go
 unfold ZcV
 row_readAll go
 refine M1.m.draw M1.d fun t H2 mt ot k2 D2 N2=>?_
 have M2:=M1.keep k2 D2
 row_readAll go
 refine M2.n.draw M2.d fun old H3 mo oo k3 D3 N3=>?_
 have M3:=M2.keep k3 D3
 row_readAll go
 refine Zj (by row_readAll ln) fun p4 H4 f4 k4 s4=>?_
 row_readAll go
 refine Zhu s4 ?_
 row_readAll go
 unfold ZcU
 have M4:=M3.k0 k4
 row_readAll go
 have lns:=dr.ln
 refine⟨h,c,nl,ns,rfl,M4.d,M4.n.at_,M4.n.n1,M4.n.n2,by omega,fun new H5 onew nnew k5 D5=>?_⟩
 have M5:=M4.keep k5 D5
 row_readAll go
 unfold ZcT
 row_readAll go
 refine Zbr (by row_readAll ln) fun p6 H6 f6 k6 g6=>?_
 have g6':H6 p6=some (.lst (zs3.map V.str)):=g6
 row_readAll go
 refine .inl ⟨⟨_,SqL.of g6'⟩,?_⟩
 refine ZfL (ks:=zs3) (fun z=>!decide (z∈[old,new])) (Wk.lst (SqL.of g6') Ya) (by rw[sz]; decide) (by simp) (fun z H7 R hz k r=>?_) fun p7 H7 f7 k7 g7=>?_
 ·row_readAll go
  refine Zj (by row_readAll ln) fun c8 H8 f8 k8 s8=>?_
  refine Znh (l:=[old,new]) s8 ?_
  row_readAll go
  exact r H8 k8
 ·obtain⟨o,rest,eu,hu,nu⟩:=Zia (l:=zs3) Znz (fun y hy=>hy) (ns:=[old,new]) (by show 2 < 3; decide)
  rw[eu]at g7
  row_readAll go
  refine Zaz (SqL.of g7) (Zsu (v:=V.str o) (xs:=rest.map V.str)) ?_
  row_readAll go
  have kd:Zb [h,c] H1 H7:=((((k2.trans k3).step0 k4).trans k5).step0 k6).step0 k7
  have hnc:d∉[h,c]:=by
   obtain⟨st,ix,cells,z1,z2,_⟩:=D.ex
   simp only[Yn,Ya,or_false]
   rintro(rfl | rfl)
   ·rw[fd]at z1; cases z1
   ·rw[fd]at z2; cases z2
  have dp7:Zbc K H7 d P:=dp1.keep kd hnc
  have M7:=(M5.k0 k6).k0 k7
  have lP:P.length=ms.length:=by rw[← dr.keys,Yb]
  have lm:=dr.lm
  refine ZtG (o:=o) M7 dp7 (by rw[dr.keys]; exact dr.ndm) (by omega) dr.keys (fun x hx=>⟨(dr.blk x hx).wf,by have:=(few x hx).1; omega,by have:=(dr.blk x hx).dep; omega⟩) ⟨ndm,ndn,hnc⟩ fun p8 H8 s8 M8 dp8 k8=>?_
  refine q p8 ml nl d ms ns _ t old new H8 s8 M8 dp8 ⟨⟨P,o,dr,fun x hx=>by have:=few x hx; exact⟨by omega,by omega⟩,Zny o hu,nu,rfl⟩,mt,mo,nnew,onew⟩ fm fn fd nmn ndm ndn ?_
  exact(k1.trans kd).step1 k8 fd
end
end
end M
namespace M
open PySem
theorem ZcW{P:Prg}(nd:(P.map (·.1)).Nodup)(y:Str×List Stm):y∈Zas P↔y∈P:=by
 unfold Zas
 rw[Yq]
 constructor
 ·rintro⟨n,hn,rfl⟩
  rw[ZcK,Yq]at hn
  obtain⟨z,hz,rfl⟩:=hn
  rw[Zc0 (k:=z.1) (v:=z.2) nd hz]
  exact hz
 ·intro hy
  refine⟨y.1,ZcK.mpr (Yv (f:=(·.1)) hy),?_⟩
  rw[Zc0 (k:=y.1) (v:=y.2) nd hy]
  rfl
theorem Zbm.sortR{P:Prg}(ok:Zbm P):Zbm (Zas P):=by
 refine⟨Zko ok.nd,?_,fun x hx=>ok.nm x ((ZcW ok.nd x).mp hx),fun x hx=>ok.blk x ((ZcW ok.nd x).mp hx)⟩
 have:=congrArg List.length (Zch P)
 rw[Yb,Ziw,Yb]at this
 rw[this]; exact ok.few
end M
namespace M
open PySem PySem.Spec PyProof.Rows L2 L2H SlX
local macro_rules | `(tactic| row_readAll n4) => `(tactic| simp only [Zcc, Zcd, Zc7, Zh4, Zce, Zfx, Zc8, Zg6])
local macro_rules | `(tactic| row_readAll gg) => `(tactic| ((try row_readAll go); (try row_readAll n4); (try row_readAll go); (try row_readAll n4); (try row_readAll go)))
structure Zsv(K:YC)(CU CI CC CL:YF):Prop where
 uc:PySem.W.exmOne K (.ref CU) (.ref CC)=some false
 ui:PySem.W.exmOne K (.ref CU) (.ref CI)=some false
 uu:PySem.W.exmOne K (.ref CU) (.ref CU)=some true
 ic:PySem.W.exmOne K (.ref CI) (.ref CC)=some false
 ii:PySem.W.exmOne K (.ref CI) (.ref CI)=some true
 cc:PySem.W.exmOne K (.ref CC) (.ref CC)=some true
 kc:PySem.W.kitOne K (.ref CC) (.ref CL)=some true
 ki:PySem.W.kitOne K (.ref CI) (.ref CL)=some true
theorem Zl3{sp:Sp}{E:L2.St→XK}{t:TA}{σ:L2.St}{H:Hp}{Q:VK}:tCallS sp E t σ H Q=t σ H fun vs H1=>sp vs H1 Q (E σ):=rfl
theorem ZqF{a C:YF}{cls:YI}{d:Option YF}{f:Str}{te:TE}{σ:L2.St}{H:Hp}{Q:VK}:tXf a cls d C f te σ H Q=te σ H fun x H1=>x = .ref a∧cls = .ref C∧∃ (dd:YF) (fs:List (Str×V)) (v:V),d=some dd∧H1 dd=some (.xd fs)∧fs.lookup f=some v∧Q v H1:=rfl
def Zz(K:YC)(CP:YF):Sp:=fun vs H Q _=>∃ pr P pf m old new,vs=[.ref pr,.str m,.str old,.str new]∧Zbs K H CP pr P pf∧Zbm P∧new.length ≤ 4000∧PyData.strOk new=true ∧
 ((valA P m=none∧∀ H',Zb [] H H'→Q (.str m) H')∨((valA P m).isSome=true∧ZeM new=false∧∀ H',Zb [] H H'→Q (.str "name") H')∨((valA P m).isSome=true∧okN m∧okN old∧okN new∧old≠new∧Zfa P m old new=false∧∀ H',Zb [] H H'→Q (.str "cannot") H') ∨
  ((valA P m).isSome=true∧okN m∧okN old∧okN new∧(old≠new→Zfa P m old new=true)∧∀ H',Zb [] H H'→Q .non H'))
def Zcf(K:YC)(CP CU CI CC CL:YF)(W:WX):TS:=(Xb (Xm (tC .non) (Y6 4))
 (Xb (fun D σ H=>(fun W:WX=>(Xp (tCallS (ZbM K CP CU CI CC) (WE W) (YV (YU 0) (YV (YU 1) (YV (YU 2) (YV (YU 3) Y1))))))) ((ZqW K (.ref CC) 5 (fun a cls d=>(Xm (tIf (tB (tCB (Zr6 K a CC cls d) (YV (YU 5) (YV (tC (.ref CL)) Y1)))) (tC (.str "cannot")) (tC (.str "other"))) (Y6 4))) (ZqW K (.ref CI) 5 (fun a cls d=>(Xm (tIf (tB (tCB (Zr6 K a CI cls d) (YV (YU 5) (YV (tC (.ref CL)) Y1)))) (tC (.str "name")) (tC (.str "other"))) (Y6 4))) (ZqW K (.ref CU) 5 (fun a cls d=>(Xm (tXf a cls d CU "module" (YU 5)) (Y6 4))) (fun _=>W)))) D) D σ H)
 (Xj (YU 4))))
def Zic:List Str:=["_law_program_here", "_law_target", "_law_old", "_law_new", "_law_told", "error"]
section
variable {K:YC} {H H':Hp} {Q:VK}
theorem Zf_{CP CU CI CC CL:YF}(T:Zsv K CU CI CC CL)(vs:List V)(H:Hp)(Q:VK)(E:XK)(h:Zz K CP vs H Q E):Zcf K CP CU CI CC CL (fun _ _ _ _=>False) { nx:=fun _ H'=>Q .non H',rt:=Q } (start Zic vs) H:=by
 obtain⟨pr,P,pf,m,old,new,rfl,xp,ok,ln,so,h⟩:=h
 show Zcf K CP CU CI CC CL _ _ [some (.ref pr),some (.str m),some (.str old),some (.str new),none,none] H
 unfold Zcf
 row_readAll go
 simp only[Zl3]
 row_readAll go
 rcases h with⟨e,q⟩ | ⟨e,e2,q⟩ | ⟨e,om,oo,on,ne,e2,q⟩ | ⟨e,om,oo,on,e2,q⟩
 ·refine⟨pr,P,pf,m,old,new,rfl,xp,ok,ln,so,.inl ⟨e,fun d H1 fd k1 g1=>?_⟩⟩
  refine⟨false,T.uc,(fun z=>nomatch z),fun _=>⟨false,T.ui,(fun z=>nomatch z),fun _=>⟨true,T.uu,fun _ e' fe=>?_,fun z=>nomatch z⟩⟩⟩
  row_readAll go
  rw[ZqF]
  row_readAll go
  refine⟨d,_,.str m,rfl,g1,by rfl,?_⟩
  row_readAll go
  exact q H1 k1
 ·refine⟨pr,P,pf,m,old,new,rfl,xp,ok,ln,so,.inr (.inl ⟨e,e2,fun H1 k1=>?_⟩)⟩
  refine⟨false,T.ic,(fun z=>nomatch z),fun _=>⟨true,T.ii,fun _ e' fe=>?_,fun z=>nomatch z⟩⟩
  row_readAll go
  refine⟨.ref CL,.ref CL,true,rfl,rfl,(fun dd z=>by cases z),(fun u r=>r),T.ki,?_⟩
  row_readAll go
  exact q H1 k1
 ·refine⟨pr,P,pf,m,old,new,rfl,xp,ok,ln,so,.inr (.inr (.inl ⟨e,om,oo,on,ne,e2,fun H1 k1=>?_⟩))⟩
  refine⟨true,T.cc,fun _ e' fe=>?_,fun z=>nomatch z⟩
  row_readAll go
  refine⟨.ref CL,.ref CL,true,rfl,rfl,(fun dd z=>by cases z),(fun u r=>r),T.kc,?_⟩
  row_readAll go
  exact q H1 k1
 ·refine⟨pr,P,pf,m,old,new,rfl,xp,ok,ln,so,.inr (.inr (.inr ⟨e,om,oo,on,e2,fun a fp H1 y k1=>?_⟩))⟩
  row_readAll go
  exact q H1 k1
theorem Ex.wf_one:(Ex.int 1).wf 3:=by simp only[Ex.wf,okI]; decide
theorem Ex.wf_one2:(Ex.int 1).wf 2:=by simp only[Ex.wf,okI]; decide
theorem Ex.wf_two1:(Ex.int 2).wf 1:=by simp only[Ex.wf,okI]; decide
def ZqG(t old new m:Str)(s:Stm):Prop:=s.isStar=true∨((none,old):PlN)∈plS m s∨((none,new):PlN)∈plS m s∨((some t,new):PlN)∈plS m s
structure Rsn(t old new free:Str)(s:Stm)(own reason:Bool):Prop where
 wf:s.wf
 cnt:s.cnt=1
 dep:s.dep ≤ 1
 bad:reason=true→∀ m,(own=true→m=t)→ZqG t old new m s
 good:reason=false→own=false∧s = .shw (.of free free)
def ZbA(K:YC):Sp:=fun vs H Q _=>∃ h c t old new free,vs=[.ref h,.str t,.str old,.str new,.str free]∧Drw H h c∧okN t∧okN old∧okN new∧okN free ∧
 ∀ p v s own reason H',SqT K H' p [v,.bl own,.bl reason]→Im K H' v (Stm.d s)→Rsn t old new free s own reason→Zb [h,c] H H'→Drw H' h c→Q (.ref p) H'
def ZeP(K:YC)  : TS:=(Xb (Xk (Xe (tOp (ZbB K) (YU 5) (tC (.int 10)))) (Xj (Zf K (YV (Zf K (YV (tC (.str "from")) (YV (YU 1) (YV (YU 3) (YV (YU 4) Y1))))) (YV (tC (.bl false)) (YV (tC (.bl true)) Y1))))) Xq)
 (Xb (Xk (Xe (tOp (ZbB K) (YU 5) (tC (.int 11)))) (Xj (Zf K (YV (Zf K (YV (tC (.str "from")) (YV (YU 1) (YV (YU 4) (YV (YU 3) Y1))))) (YV (tC (.bl true)) (YV (tC (.bl true)) Y1))))) Xq)
 (Xj (Zf K (YV (Zf K (YV (tC (.str "show")) (YV (Zf K (YV (tC (.str "of")) (YV (YU 4) (YV (YU 4) Y1)))) Y1))) (YV (tC (.bl false)) (YV (tC (.bl false)) Y1)))))))
def ZeQ(K:YC)  : TS:=(Xb (Xp (tBM K "list" rAppend (YU 8) (YV (Zf K (YV (tC (.str "set")) (YV (YU 4) (YV (Zf K (YV (tC (.str "sum")) (YV (tC (.int 1)) (YV (Zf K (YV (tC (.str "name")) (YV (YU 3) Y1))) Y1)))) Y1)))) Y1)))
 (Xj (Zf K (YV (tOp (rIx K) (tOp (rAdd K) (YU 7) (YU 8)) (tOp Zg3 (YU 5) (tC (.int 3)))) (YV (tC (.bl true)) (YV (tC (.bl true)) Y1))))))
def ZeR(K:YC)  : TS:=(Xb (Xm (Zbi (YV (Zf K (YV (tC (.str "show")) (YV (Zf K (YV (tC (.str "name")) (YV (YU 3) Y1))) Y1))) (YV (Zf K (YV (tC (.str "call")) (YV (Zf K (YV (tC (.str "of")) (YV (YU 3) (YV (YU 4) Y1)))) Y1))) Y1))) (Y6 8))
 (ZeQ K ))
def ZcH(K:YC)  : TS:=(Xb (Xk (Xe (tOp ZkZ (YU 5) (tC (.int 10)))) (Xb (Xm (Zbi (YV (Zf K (YV (tC (.str "set")) (YV (YU 3) (YV (tC (.int 1)) Y1)))) (YV (Zf K (YV (tC (.str "del")) (YV (YU 3) Y1))) (YV (Zf K (YV (tC (.str "def")) (YV (YU 3) (YV (Zf K Y1) Y1)))) (YV (Zf K (YV (tC (.str "\x69mport")) (YV (YU 1) (YV (YU 3) Y1)))) Y1))))) (Y6 7))
 (ZeR K )) Xq)
 (ZeP K ))
def ZcB(K:YC)  : TS:=(Xb (tPar 5 6 (YV (Xo (Zd K) [] E0 (YV (YU 0) (YV (tC (.int 13)) Y1))) (YV (tOp (rIx K) (Zbi (YV (YU 2) (YV (YU 3) Y1))) (Xo (Zd K) [] E0 (YV (YU 0) (YV (tC (.int 2)) Y1)))) Y1)))
 (Xb (Xk (Xe (tOp ZkZ (YU 5) (tC (.int 3)))) (Xj (tOp (rIx K) (Zbi (YV (Zf K (YV (Zf K (YV (tC (.str "star")) (YV (YU 1) Y1))) (YV (tC (.bl false)) (YV (tC (.bl true)) Y1)))) (YV (Zf K (YV (Zf K (YV (tC (.str "show")) (YV (Zf K (YV (tC (.str "of")) (YV (YU 4) (YV (YU 6) Y1)))) Y1))) (YV (tC (.bl false)) (YV (tC (.bl true)) Y1)))) (YV (Zf K (YV (Zf K (YV (tC (.str "if")) (YV (Zf K (YV (tC (.str "less")) (YV (tC (.int 1)) (YV (Zf K (YV (tC (.str "sum")) (YV (Zf K (YV (tC (.str "of")) (YV (YU 4) (YV (YU 6) Y1)))) (YV (tC (.int 2)) Y1)))) Y1)))) (YV (Zf K Y1) (YV (Zf K Y1) Y1))))) (YV (tC (.bl false)) (YV (tC (.bl true)) Y1)))) Y1)))) (YU 5))) Xq)
 (ZcH K )))
def Zi0:List Str:=["_law_h", "_law_target", "_law_old", "_law_new", "_law_free", "_law_kind", "_law_both", "_law_first", "_law_second"]
section
variable {D:Ends} {h c:YF} {t old new free both:Str} {v8 v7:Option V}
theorem ZtH(k:Int)(h3 : 3 ≤ k)(h9:k ≤ 12)(ot:okN t)(oo:okN old)(on:okN new)(of_:okN free)
  (q:∀ p v s own reason H',SqT K H' p [v,.bl own,.bl reason]→Im K H' v (Stm.d s)→Rsn t old new free s own reason→Zb [] H H'→D.rt (.ref p) H') :
  ZcH K D [some (.ref h),some (.str t),some (.str old),some (.str new),some (.str free),some (.int k),some (.str both),v7,v8] H:=by
 unfold ZcH
 have sz:=Z3
 row_readAll go
 by_cases h10:k < 10
 ·rw[decide_eq_true h10]
  row_readAll go
  refine Zj (by row_readAll ln) fun a1 H1 f1 k1 s1=>?_
  row_readAll go
  refine Zj (by row_readAll ln) fun a2 H2 f2 k2 s2=>?_
  row_readAll go
  refine Zj (by row_readAll ln) fun a3 H3 f3 k3 s3=>?_
  row_readAll go
  refine Zj (by row_readAll ln) fun a4 H4 f4 k4 s4=>?_
  row_readAll go
  refine Zj (by row_readAll ln) fun a5 H5 f5 k5 s5=>?_
  row_readAll go
  refine Zbr (by row_readAll ln) fun p6 H6 f6 k6 g6=>?_
  have k26:Zb [] H2 H6:=((k3.trans k4).trans k5).trans k6
  have i1:Im K H6 (.ref a1) (Stm.d (.set new (.int 1))):=.tup (k26.sqT (k2.sqT s1)) (.cons (.str _) (.cons (.str _) (.cons (.int _) .nil)))
  have i2:Im K H6 (.ref a2) (Stm.d (.del new)):=.tup (k26.sqT s2) (.cons (.str _) (.cons (.str _) .nil))
  have k46:Zb [] H4 H6:=k5.trans k6
  have i4:Im K H6 (.ref a4) (Stm.d (.fn new [])):=.tup (k46.sqT s4) (.cons (.str _) (.cons (.str _) (.cons (.tup (k46.sqT (k4.sqT s3)) .nil) .nil)))
  have i5:Im K H6 (.ref a5) (Stm.d (.imp t new)):=.tup (k6.sqT s5) (.cons (.str _) (.cons (.str _) (.cons (.str _) .nil)))
  have k06:Zb [] H H6:=(k1.trans k2).trans k26
  clear s1 s2 s3 s4 s5
  row_readAll go
  unfold ZeR
  row_readAll go
  refine Zj (by row_readAll ln) fun a7 H7 f7 k7 s7=>?_
  row_readAll go
  refine Zj (by row_readAll ln) fun a8 H8 f8 k8 s8=>?_
  row_readAll go
  refine Zj (by row_readAll ln) fun a9 H9 f9 k9 s9=>?_
  row_readAll go
  refine Zj (by row_readAll ln) fun a10 H10 f10 k10 s10=>?_
  row_readAll go
  refine Zbr (by row_readAll ln) fun p11 H11 f11 k11 g11=>?_
  have k811:Zb [] H8 H11:=(k9.trans k10).trans k11
  have k611:Zb [] H6 H11:=(k7.trans k8).trans k811
  have i8:Im K H11 (.ref a8) (Stm.d (.shw (.nm new))):=.tup (k811.sqT s8) (.cons (.str _) (.cons (.tup (k811.sqT (k8.sqT s7)) (.cons (.str _) (.cons (.str _) .nil))) .nil))
  have k1011:Zb [] H10 H11:=k11
  have i10:Im K H11 (.ref a10) (Stm.d (.call (.of new free))):=.tup (k11.sqT s10) (.cons (.str _) (.cons (.tup (k11.sqT (k10.sqT s9)) (.cons (.str _) (.cons (.str _) (.cons (.str _) .nil)))) .nil))
  row_readAll go
  unfold ZeQ
  row_readAll go
  refine⟨.inl ⟨rfl,_,SqL.of g11⟩,?_⟩
  row_readAll go
  refine Zj (by row_readAll ln) fun a12 H12 f12 k12 s12=>?_
  row_readAll go
  refine Zj (by row_readAll ln) fun a13 H13 f13 k13 s13=>?_
  row_readAll go
  refine Zj (by row_readAll ln) fun a14 H14 f14 k14 s14=>?_
  row_readAll go
  have k1114:Zb [] H11 H14:=(k12.trans k13).trans k14
  refine ZcY (k1114.obj _ _ Ya g11) (by rw[sz]; simp) fun H15 k15 g15=>?_
  have e15:p11∉([]:List YF):=Ya
  have n6:p6≠p11:=fun z=>by
   have:=(k7.trans k8).trans (k9.trans k10) |>.obj _ _ Ya g6
   rw[z,f11]at this; cases this
  have k014:Zb [] H H14:=(k06.trans k611).trans k1114
  have k015:Zb [] H H15:=k014.step1 k15 ((k06.trans ((k7.trans k8).trans (k9.trans k10))).free f11)
  have i14:Im K H15 (.ref a14) (Stm.d (.set free (.bin true (.int 1) (.nm new)))):=.tup (k15.sqT s14) (.cons (.str _) (.cons (.str _) (.cons (.tup (k15.sqT (k14.sqT s13)) (.cons (.str _) (.cons (.int _) (.cons (.tup (k15.sqT (k14.sqT (k13.sqT s12))) (.cons (.str _) (.cons (.str _) .nil))) .nil)))) .nil)))
  have g6':H15 p6=_:=k15.obj _ _ (by simpa using n6) ((k611.trans k1114).obj _ _ Ya g6)
  have j1:=((i1.mono k611).mono k1114).mono k15
  have j2:=((i2.mono k611).mono k1114).mono k15
  have j4:=((i4.mono k611).mono k1114).mono k15
  have j5:=((i5.mono k611).mono k1114).mono k15
  have j8:=(i8.mono k1114).mono k15
  have j10:=(i10.mono k1114).mono k15
  row_readAll go
  refine Zk3 g6' g15 (by rw[sz]; simp) fun p16 H16 f16 k16 g16=>?_
  row_readAll go
  have fin:∀ (a:YF) (s:Stm),Im K H15 (.ref a) (Stm.d s)→Rsn t old new free s true true→mkT K [.ref a,.bl true,.bl true] H16 D.rt:=by
   intro a s i R
   refine Zj (by row_readAll ln) fun p17 H17 f17 k17 s17=>?_
   exact q p17 _ s true true H17 s17 ((i.mono k16).mono k17) R ((k015.trans k16).trans k17)
  have own:∀ s:Stm,s.wf→s.cnt=1→s.dep ≤ 1→((some t,new):PlN)∈plS t s→Rsn t old new free s true true:=fun s w c d m=>⟨w,c,d,fun _ m' e=>by rw[e rfl]; exact .inr (.inr (.inr m)),fun z=>by cases z⟩
  have cases7:k=3∨k=4∨k=5∨k=6∨k=7∨k=8∨k=9:=by omega
  rcases cases7 with rfl | rfl | rfl | rfl | rfl | rfl | rfl
  ·refine Zaz (SqL.of g16) (show atI _ _=some (V.ref a1)from rfl) ?_
   exact fin a1 (.set new (.int 1)) j1 (own _ ⟨on,Ex.wf_one⟩ rfl (by simp[Stm.dep]) (by simp[plS,plT,Stm.exprs,plE,Ex.rds]))
  ·refine Zaz (SqL.of g16) (show atI _ _=some (V.ref a2)from rfl) ?_
   exact fin a2 (.del new) j2 (own _ on rfl (by simp[Stm.dep]) (by simp[plS,plT,Stm.exprs]))
  ·refine Zaz (SqL.of g16) (show atI _ _=some (V.ref a4)from rfl) ?_
   exact fin a4 (.fn new []) j4 (own _ ⟨on,trivial⟩ rfl (by simp[Stm.dep,depL]) (by simp[plS,plT,Stm.exprs]))
  ·refine Zaz (SqL.of g16) (show atI _ _=some (V.ref a5)from rfl) ?_
   exact fin a5 (.imp t new) j5 (own _ ⟨ot,on⟩ rfl (by simp[Stm.dep]) (by simp[plS,plT,Stm.exprs]))
  ·refine Zaz (SqL.of g16) (show atI _ _=some (V.ref a8)from rfl) ?_
   exact fin a8 (.shw (.nm new)) j8 (own _ on rfl (by simp[Stm.dep]) (by simp[plS,plT,Stm.exprs,plE,Ex.rds,ZdV]))
  ·refine Zaz (SqL.of g16) (show atI _ _=some (V.ref a10)from rfl) ?_
   exact fin a10 (.call (.of new free)) j10 (own _ ⟨on,of_⟩ rfl (by simp[Stm.dep]) (by simp[plS,plT,Stm.exprs,plE,Ex.rds,ZdV]))
  ·refine Zaz (SqL.of g16) (show atI _ _=some (V.ref a14)from rfl) ?_
   exact fin a14 (.set free (.bin true (.int 1) (.nm new))) i14 (own _ ⟨of_,⟨Ex.wf_one2,on⟩⟩ rfl (by simp[Stm.dep]) (by simp[plS,plT,Stm.exprs,plE,Ex.rds,ZdV]))
 ·rw[decide_eq_false h10]
  row_readAll ga
  unfold ZeP
  row_readAll ga
  have fin:∀ (a:YF) (s:Stm) (o r:Bool) (H':Hp),Zb [] H H'→Im K H' (.ref a) (Stm.d s)→Rsn t old new free s o r→mkT K [.ref a,.bl o,.bl r] H' D.rt:=by
   intro a s o r H' k' i R
   refine Zj (by row_readAll ln) fun p17 H17 f17 k17 s17=>?_
   exact q p17 _ s o r H17 s17 (i.mono k17) R (k'.trans k17)
  by_cases e10:k=10
  ·rw[decide_eq_true e10]
   row_readAll go
   refine Zj (by row_readAll ln) fun a1 H1 f1 k1 s1=>?_
   row_readAll go
   exact fin a1 (.frm t new free) false true H1 k1 (.tup s1 (.cons (.str _) (.cons (.str _) (.cons (.str _) (.cons (.str _) .nil))))) ⟨⟨ot,on,of_⟩,rfl,by simp[Stm.dep],(fun _ m _=>.inr (.inr (.inr (by simp[plS,plT,Stm.exprs])))),(fun z=>by cases z)⟩
  ·rw[decide_eq_false e10]
   row_readAll go
   by_cases e11:k=11
   ·rw[decide_eq_true e11]
    row_readAll go
    refine Zj (by row_readAll ln) fun a1 H1 f1 k1 s1=>?_
    row_readAll go
    exact fin a1 (.frm t free new) true true H1 k1 (.tup s1 (.cons (.str _) (.cons (.str _) (.cons (.str _) (.cons (.str _) .nil))))) ⟨⟨ot,of_,on⟩,rfl,by simp[Stm.dep],(fun _ m e=>by rw[e rfl]; exact .inr (.inr (.inr (by simp[plS,plT,Stm.exprs])))),(fun z=>by cases z)⟩
   ·rw[decide_eq_false e11]
    row_readAll go
    refine Zj (by row_readAll ln) fun a1 H1 f1 k1 s1=>?_
    row_readAll go
    refine Zj (by row_readAll ln) fun a2 H2 f2 k2 s2=>?_
    row_readAll go
    exact fin a2 (.shw (.of free free)) false false H2 (k1.trans k2) (.tup s2 (.cons (.str _) (.cons (.tup (k2.sqT s1) (.cons (.str _) (.cons (.str _) (.cons (.str _) .nil)))) .nil))) ⟨⟨of_,of_⟩,rfl,by simp[Stm.dep],(fun z=>by cases z),fun _=>⟨rfl,rfl⟩⟩
theorem ZgW(vs:List V)(H:Hp)(Q:VK)(E:XK)(hh:ZbA K vs H Q E):ZcB K { nx:=fun _ H'=>Q .non H',rt:=Q } (start Zi0 vs) H:=by
 obtain⟨h,c,t,old,new,free,rfl,D0,ot,oo,on,of_,q⟩:=hh
 show ZcB K _ [some (.ref h),some (.str t),some (.str old),some (.str new),some (.str free),none,none,none,none] H
 unfold ZcB
 have sz:=Z3
 row_readAll go
 row_readAll go
 refine Zf2 D0 (by decide) (by decide) fun k H1 k0 k13 kk1 D1=>?_
 row_readAll go
 refine Zbr (by row_readAll ln) fun p2 H2 f2 kk2 g2=>?_
 row_readAll go
 have D2:=D1.k0 kk2
 have n2:=D1.ne1 f2
 refine Zf2 D2 (by decide) (by decide) fun u H3 u0 u2 kk3 D3=>?_
 obtain⟨both,hb,ob,eb⟩:∃ both,atI [V.str old,V.str new] u=some (.str both)∧okN both∧(both=old∨both=new):=by
  have:u=0∨u=1:=by omega
  rcases this with rfl | rfl
  ·exact⟨old,rfl,oo,.inl rfl⟩
  ·exact⟨new,rfl,on,.inr rfl⟩
 refine Zaz (SqL.of (kk3.obj _ _ (by simp[n2.1,n2.2]) g2)) hb ?_
 row_readAll go
 have k03:Zb [h,c] H H3:=(kk1.step0 kk2).trans kk3
 by_cases h3:k < 3
 ·rw[decide_eq_true h3]
  row_readAll go
  refine Zj (by row_readAll ln) fun a4 H4 f4 kk4 s4=>?_
  refine Zj (by row_readAll ln) fun a5 H5 f5 kk5 s5=>?_
  refine Zj (by row_readAll ln) fun a6 H6 f6 kk6 s6=>?_
  refine Zj (by row_readAll ln) fun a7 H7 f7 kk7 s7=>?_
  refine Zj (by row_readAll ln) fun a8 H8 f8 kk8 s8=>?_
  refine Zj (by row_readAll ln) fun a9 H9 f9 kk9 s9=>?_
  refine Zj (by row_readAll ln) fun a10 H10 f10 kk10 s10=>?_
  refine Zj (by row_readAll ln) fun a11 H11 f11 kk11 s11=>?_
  refine Zj (by row_readAll ln) fun a12 H12 f12 kk12 s12=>?_
  refine Zj (by row_readAll ln) fun a13 H13 f13 kk13 s13=>?_
  refine Zj (by row_readAll ln) fun a14 H14 f14 kk14 s14=>?_
  refine Zj (by row_readAll ln) fun a15 H15 f15 kk15 s15=>?_
  refine Zbr (by row_readAll ln) fun p16 H16 f16 kk16 g16=>?_
  have e4:Zb [] H4 H16:=(((((((((((kk5.trans kk6).trans kk7).trans kk8).trans kk9).trans kk10).trans kk11).trans kk12).trans kk13).trans kk14).trans kk15).trans kk16)
  have e5:Zb [] H5 H16:=((((((((((kk6.trans kk7).trans kk8).trans kk9).trans kk10).trans kk11).trans kk12).trans kk13).trans kk14).trans kk15).trans kk16)
  have e6:Zb [] H6 H16:=(((((((((kk7.trans kk8).trans kk9).trans kk10).trans kk11).trans kk12).trans kk13).trans kk14).trans kk15).trans kk16)
  have e7:Zb [] H7 H16:=((((((((kk8.trans kk9).trans kk10).trans kk11).trans kk12).trans kk13).trans kk14).trans kk15).trans kk16)
  have e8:Zb [] H8 H16:=(((((((kk9.trans kk10).trans kk11).trans kk12).trans kk13).trans kk14).trans kk15).trans kk16)
  have e9:Zb [] H9 H16:=((((((kk10.trans kk11).trans kk12).trans kk13).trans kk14).trans kk15).trans kk16)
  have e10:Zb [] H10 H16:=(((((kk11.trans kk12).trans kk13).trans kk14).trans kk15).trans kk16)
  have e11:Zb [] H11 H16:=((((kk12.trans kk13).trans kk14).trans kk15).trans kk16)
  have e12:Zb [] H12 H16:=(((kk13.trans kk14).trans kk15).trans kk16)
  have e13:Zb [] H13 H16:=((kk14.trans kk15).trans kk16)
  have e14:Zb [] H14 H16:=(kk15.trans kk16)
  have e15:Zb [] H15 H16:=kk16
  have e3:Zb [] H3 H16:=kk4.trans e4
  have i4:Im K H16 (.ref a4) (Stm.d (.star t)):=.tup (e4.sqT s4) (.cons (.str _) (.cons (.str _) .nil))
  have iof:∀ a,SqT K H16 a [.str "of",.str free,.str both]→Im K H16 (.ref a) (Ex.d (.of free both)):=fun a s=>.tup s (.cons (.str _) (.cons (.str _) (.cons (.str _) .nil)))
  have i7:Im K H16 (.ref a7) (Stm.d (.shw (.of free both))):=.tup (e7.sqT s7) (.cons (.str _) (.cons (iof _ (e6.sqT s6)) .nil))
  have i11:Im K H16 (.ref a11) (Ex.d (.bin false (.int 1) (.bin true (.of free both) (.int 2)))):=.tup (e11.sqT s11) (.cons (.str _) (.cons (.int _) (.cons (.tup (e10.sqT s10) (.cons (.str _) (.cons (iof _ (e9.sqT s9)) (.cons (.int _) .nil)))) .nil)))
  have i14:Im K H16 (.ref a14) (Stm.d (.ite (.bin false (.int 1) (.bin true (.of free both) (.int 2))) [] [])):=.tup (e14.sqT s14) (.cons (.str _) (.cons i11 (.cons (.tup (e12.sqT s12) .nil) (.cons (.tup (e13.sqT s13) .nil) .nil))))
  have kf0:Zb [h,c] H H16:=k03.step0 e3
  have D16:=D3.k0 e3
  have bad:∀ m:Str,((none,both):PlN)∈plE m (.of free both):=fun m=>by rw[ZcR]; simp
  have badS:∀ (m:Str) (s:Stm),((none,both):PlN)∈plS m s→ZqG t old new m s:=fun m s h=>by
   rcases eb with rfl | rfl
   ·exact .inr (.inl h)
   ·exact .inr (.inr (.inl h))
  have cases3:k=0∨k=1∨k=2:=by omega
  rcases cases3 with rfl | rfl | rfl
  ·refine Zaz (SqL.of g16) (show atI _ _=some (V.ref a5)from rfl) ?_
   exact q a5 _ (.star t) false true H16 (e5.sqT s5) i4 ⟨ot,rfl,by simp[Stm.dep],(fun _ m _=>.inl rfl),(fun z=>by cases z)⟩ kf0 D16
  ·refine Zaz (SqL.of g16) (show atI _ _=some (V.ref a8)from rfl) ?_
   exact q a8 _ (.shw (.of free both)) false true H16 (e8.sqT s8) i7 ⟨⟨of_,ob⟩,rfl,by simp[Stm.dep],(fun _ m _=>badS m _ (Yo _ (by simp[Stm.exprs,ZcR]))),(fun z=>by cases z)⟩ kf0 D16
  ·refine Zaz (SqL.of g16) (show atI _ _=some (V.ref a15)from rfl) ?_
   exact q a15 _ (.ite (.bin false (.int 1) (.bin true (.of free both) (.int 2))) [] []) false true H16 (e15.sqT s15) i14 ⟨⟨⟨Ex.wf_one2,⟨⟨of_,ob⟩,Ex.wf_two1⟩⟩,trivial,trivial⟩,rfl,by simp[Stm.dep,depL],(fun _ m _=>badS m _ (Yo _ (by simp[Stm.exprs,ZcR,Ze3]))),(fun z=>by cases z)⟩ kf0 D16
 ·rw[decide_eq_false h3]
  row_readAll go
  exact ZtH k (by omega) (by omega) ot oo on of_ fun p v s own reason H' s' i' R k'=>q p v s own reason H' s' i' R (k03.step0 k') (D3.k0 k')
end
end
end M
namespace M
open PySem
mutual
def Stm.all:Stm→List Stm
 | .fn n b=>.fn n b :: allL b
 | .ite e b o=>.ite e b o :: (allL b++allL o)
 | .tri k b o=>.tri k b o :: (allL b++allL o)
 | s=>[s]
def allL:List Stm→List Stm
 | []=>[]
 | s :: r=>s.all++allL r
end
theorem Zgh:∀ a b:List Stm,allL (a++b)=allL a++allL b
 | [],b=>by simp[allL]
 | s :: r,b=>by simp only[YB,allL,Zgh r b,Ys]
mutual
theorem Zm6:∀ (s:Stm) (p:Pth),s :: (s.sub p).map (·.2)=s.all
 | .fn n b,p=>by simp only[Stm.sub,Stm.all,walk_allL b]
 | .ite e b o,p=>by simp only[Stm.sub,Stm.all,Yl,walk_allL b,walk_allL o]
 | .tri k b o,p=>by simp only[Stm.sub,Stm.all,Yl,walk_allL b,walk_allL o]
 | .set ..,p | .del ..,p | .shw ..,p | .call ..,p | .raise,p | .imp ..,p | .frm ..,p | .star ..,p=>by simp only[Stm.sub,Stm.all,List.map_nil]
theorem walk_allL:∀ (b:List Stm) (p:Pth) (i:Nat),(walkL p i b).map (·.2)=allL b
 | [],p,i=>by simp only[walkL,allL,List.map_nil]
 | s :: r,p,i=>by
   simp only[walkL,allL,Yr,Yl,walk_allL r]
   rw[← Zm6 s (p++[i])]
   rfl
end
theorem Zgi{P:Prg}{m:Str}{s:Stm}:(∃ p,(m,p,s)∈Zbt P)↔∃ b,(m,b)∈P∧s∈allL b:=by
 constructor
 ·rintro⟨p,h⟩
  obtain⟨b,hb,hw⟩:=ZgP h
  refine⟨b,hb,?_⟩
  rw[← walk_allL b [] 0]
  exact Yv (f:=(·.2)) hw
 ·rintro⟨b,hb,hs⟩
  rw[← walk_allL b [] 0]at hs
  obtain⟨⟨p,s'⟩,hr,rfl⟩:=Yq.mp hs
  exact⟨p,List.mem_flatMap.mpr ⟨(m,b),hb,Yq.mpr ⟨(p,s'),hr,rfl⟩⟩⟩
theorem Zid{P:Prg}{d:PlN}:d∈pls P↔∃ y∈P,∃ s∈allL y.2,d∈plS y.1 s:=by
 unfold pls Zhw
 rw[List.mem_flatMap]
 constructor
 ·rintro⟨⟨m,p,s⟩,h,hd⟩
  obtain⟨b,hb,hs⟩:=Zgi.mp ⟨p,h⟩
  exact⟨(m,b),hb,s,hs,hd⟩
 ·rintro⟨⟨m,b⟩,hb,s,hs,hd⟩
  obtain⟨p,h⟩:=Zgi.mpr ⟨b,hb,hs⟩
  exact⟨(m,p,s),h,hd⟩
theorem Zdg{P:Prg}{t old new:Str}:Zfa P t old new=true↔∀ y∈P,∀ s∈allL y.2,¬ ZqG t old new y.1 s:=by
 constructor
 ·intro h y hy s hs hb
  unfold Zfa at h
  simp only[Bool.and_eq_true,Bool.not_eq_true',decide_eq_false_iff_not]at h
  obtain⟨h1,h2,h3,h4⟩:=h
  have hp:∀ d,d∈plS y.1 s→d∈pls P:=fun d hd=>Zid.mpr ⟨y,hy,s,hs,hd⟩
  rcases hb with hb | hb | hb | hb
  ·obtain⟨p,hf⟩:=Zgi.mpr ⟨y.2,hy,hs⟩
   rw[List.any_eq_false]at h1
   exact h1 _ hf hb
  ·exact h2 (hp _ hb)
  ·exact h3 (hp _ hb)
  ·exact h4 (hp _ hb)
 ·intro h
  refine Zl1 (fun x hx=>?_) (fun z=>?_) (fun z=>?_) (fun z=>?_)
  ·obtain⟨b,hb,hs⟩:=Zgi.mp ⟨x.2.1,hx⟩
   cases e:x.2.2.isStar with
   | false=>rfl
   | true=>exact(h _ hb _ hs (.inl e)).elim
  ·obtain⟨y,hy,s,hs,hd⟩:=Zid.mp z
   exact h y hy s hs (.inr (.inl hd))
  ·obtain⟨y,hy,s,hs,hd⟩:=Zid.mp z
   exact h y hy s hs (.inr (.inr (.inl hd)))
  ·obtain⟨y,hy,s,hs,hd⟩:=Zid.mp z
   exact h y hy s hs (.inr (.inr (.inr hd)))
theorem Zgj{P:Prg}{m:Str}{b:List Stm}{y:Str×List Stm}(h:y∈Zcw P m b):y∈P∨y=(m,b):=by
 unfold Zcw at h
 split at h
 ·obtain⟨z,hz,e⟩:=Yq.mp h
  split at e
  ·rename_i hh
   exact .inr (by rw[← e,hh])
  ·exact .inl (by rw[← e]; exact hz)
 ·rcases Yh.mp h with h | h
  ·exact .inl h
  ·exact .inr (Ye.mp h)
theorem Zm7{P:Prg}{m:Str}{b:List Stm}:(m,b)∈Zcw P m b:=by
 unfold Zcw
 split
 ·rename_i hh
  obtain⟨z,hz,e⟩:=List.any_eq_true.mp hh
  exact Yq.mpr ⟨z,hz,by rw[if_pos (of_decide_eq_true e),of_decide_eq_true e]⟩
 ·exact Yp _ (Ye.mpr rfl)
theorem ZgX{P:Prg}{m:Str}{b:List Stm}(h:m∈P.map (·.1)):(Zcw P m b).map (·.1)=P.map (·.1):=by
 unfold Zcw
 rw[if_pos]
 ·rw[Yx]
  refine List.map_congr_left fun z _=>?_
  show(if z.1=m then(z.1,b)else z).1=z.1
  split <;> rfl
 ·obtain⟨z,hz,e⟩:=Yq.mp h
  exact List.any_eq_true.mpr ⟨z,hz,decide_eq_true e⟩
theorem Zi1{P:Prg}{m:Str}{b:List Stm}(h:m∉P.map (·.1)):Zcw P m b=P++[(m,b)]:=by
 unfold Zcw
 rw[if_neg]
 intro hh
 obtain⟨z,hz,e⟩:=List.any_eq_true.mp hh
 exact h (by rw[← of_decide_eq_true e]; exact Yv (f:=(·.1)) hz)
theorem Zbm.put{P:Prg}(ok:Zbm P){m:Str}{b:List Stm}(h:m∈P.map (·.1))(hb:Zcr b):Zbm (Zcw P m b):=by
 refine⟨by rw[ZgX h]; exact ok.nd,?_,fun y hy=>?_,fun y hy=>?_⟩
 ·have:=congrArg List.length (ZgX (b:=b) h)
  rw[Yb,Yb]at this
  rw[this]; exact ok.few
 ·rcases Zgj hy with hy | rfl
  ·exact ok.nm y hy
  ·obtain⟨z,hz,e⟩:=Yq.mp h
   rw[← e]; exact ok.nm z hz
 ·rcases Zgj hy with hy | rfl
  ·exact ok.blk y hy
  ·exact hb
theorem Zbm.add{P:Prg}(ok:Zbm P){m:Str}{b:List Stm}(h:m∉P.map (·.1))(few:P.length ≤ 7)(om:okN m)(hb:Zcr b):Zbm (Zcw P m b):=by
 rw[Zi1 h]
 refine⟨?_,by rw[Yc]; simp only[Yd,Yi]; omega,fun y hy=>?_,fun y hy=>?_⟩
 ·rw[Yl,List.nodup_append]
  refine⟨ok.nd,by simp,fun a ha b' hb' e=>?_⟩
  simp only[Yr,List.map_nil,Ye]at hb'
  rw[e,hb']at ha
  exact h ha
 ·rcases Yh.mp hy with hy | hy
  ·exact ok.nm y hy
  ·rw[Ye.mp hy]; exact om
 ·rcases Yh.mp hy with hy | hy
  ·exact ok.blk y hy
  ·rw[Ye.mp hy]; exact hb
theorem Zhz{P:Prg}(nd:(P.map (·.1)).Nodup)(n:Str):(valA (Zas P) n).isSome=true↔n∈P.map (·.1):=by
 constructor
 ·intro h
  cases e:valA (Zas P) n with
  | none=>rw[e]at h; cases h
  | some b=>exact Yv (f:=(·.1)) ((ZcW nd _).mp (ZbS e))
 ·intro h
  obtain⟨z,hz,rfl⟩:=Yq.mp h
  rw[Zc0 (k:=z.1) (v:=z.2) (Zko nd) ((ZcW nd z).mpr hz)]
  rfl
def Zie(b:List Stm)(i:Nat)(r:Stm):List Stm:=b.take i++[r]++b.drop i
inductive Wrp (free:Str) (s:Stm):Stm→Prop
 | none:Wrp free s s
 | ite:Wrp free s (.ite (.int 0) [] [s])
 | fn:Wrp free s (.fn free [s])
theorem Ex.wf_zero:(Ex.int 0).wf 3:=by simp only[Ex.wf,okI]; decide
theorem Wrp.wf{free:Str}{s r:Stm}(h:Wrp free s r)(w:s.wf)(of_:okN free):r.wf:=by
 cases h with
 | none=>exact w
 | ite=>simp only[Stm.wf,wfL]; exact⟨Ex.wf_zero,trivial,w,trivial⟩
 | fn=>simp only[Stm.wf,wfL]; exact⟨of_,w,trivial⟩
theorem Wrp.dep{free:Str}{s r:Stm}(h:Wrp free s r)(w:s.dep ≤ 1):r.dep ≤ 2:=by
 cases h with
 | none=>omega
 | ite=>simp only[Stm.dep,depL]; omega
 | fn=>simp only[Stm.dep,depL]; omega
theorem Wrp.cnt{free:Str}{s r:Stm}(h:Wrp free s r)(w:s.cnt=1):r.cnt ≤ 2:=by
 cases h with
 | none=>omega
 | ite=>simp only[Stm.cnt,cntL]; omega
 | fn=>simp only[Stm.cnt,cntL]; omega
theorem Stm.mem_all(s:Stm):s∈s.all:=by cases s <;> simp[Stm.all]
theorem Wrp.has{free:Str}{s r:Stm}(h:Wrp free s r):s∈r.all:=by
 cases h with
 | none=>exact s.mem_all
 | ite=>simp only[Stm.all,allL,List.nil_append,List.append_nil]; exact Yf _ s.mem_all
 | fn=>simp only[Stm.all,allL,List.append_nil]; exact Yf _ s.mem_all
theorem Zgk:∀ l b:List Stm,depL (l++b)=max (depL l) (depL b)
 | [],b=>by simp[depL]
 | s :: r,b=>by
   have ih:=Zgk r b
   simp only[YB,depL,ih]
   omega
theorem Zcr.ins{b:List Stm}(w:wfL b)(hd:depL b ≤ 2)(hc:cntL b ≤ 58){i:Nat}{r:Stm}(rw_:r.wf)(rd:r.dep ≤ 2)(rc:r.cnt ≤ 2):Zcr (Zie b i r):=by
 have sp:b.take i++b.drop i=b:=List.take_append_drop i b
 have d1:max (depL (b.take i)) (depL (b.drop i)) ≤ 2:=by rw[← Zgk,sp]; exact hd
 have c1:cntL (b.take i) + cntL (b.drop i) ≤ 58:=by rw[← ZbJ,sp]; exact hc
 have dd:depL (Zie b i r) ≤ 3:=by
  unfold Zie
  rw[Zgk,Zgk]
  simp only[depL]
  omega
 have ww:wfL (Zie b i r):=by
  rw[ZdE]at w ⊢
  intro s hs
  unfold Zie at hs
  rcases Yh.mp hs with hs | hs
  ·rcases Yh.mp hs with hs | hs
   ·exact w s (List.mem_of_mem_take hs)
   ·rw[Ye.mp hs]; exact rw_
  ·exact w s (List.mem_of_mem_drop hs)
 refine⟨ww,by omega,?_,Zjs ww dd⟩
 unfold Zie
 rw[ZbJ,ZbJ]
 simp only[cntL]
 omega
theorem Zkq{b:List Stm}{i:Nat}{r s:Stm}:s∈allL (Zie b i r)↔s∈allL b∨s∈r.all:=by
 have e:allL b=allL (b.take i)++allL (b.drop i):=by rw[← Zgh,List.take_append_drop]
 unfold Zie
 rw[Zgh,Zgh,e]
 simp only[allL,List.append_nil,Yh]
 constructor
 ·rintro((h | h) | h)
  ·exact .inl (.inl h)
  ·exact .inr h
  ·exact .inl (.inr h)
 ·rintro((h | h) | h)
  ·exact .inl (.inl h)
  ·exact .inr h
  ·exact .inl (.inr h)
structure T35(P:Prg)(ms ns:List Str)(t old new free:Str):Prop where
 ok:Zbm P
 key:P.map (·.1)=ms
 few:P.length ≤ 4
 sm:∀ x∈P,cntL x.2 ≤ 58∧depL x.2 ≤ 2∧x.2.length ≤ 7
 F:Free P ns [old,new]
 t:t∈ms
 o:old∈ns
 n:new∉ns
 okn:∀ x∈ns,okN x
 on:okN new
 fr:okN free
 nf:free∉[old,new]
section
variable {P:Prg} {ms ns:List Str} {t old new free m:Str}
theorem T35.ne(x:T35 P ms ns t old new free):old≠new:=fun z=>x.n (by rw[← z]; exact x.o)
theorem T35.noB(x:T35 P ms ns t old new free):∀ y∈P,∀ s∈allL y.2,¬ ZqG t old new y.1 s:=Zdg.mp (x.F.can (by simp) (by simp) x.n)
theorem Zgl{Q:Prg}(nd:(Q.map (·.1)).Nodup):Zfa (Zas Q) t old new=Zfa Q t old new:=by
 rw[Bool.eq_iff_iff,Zdg,Zdg]
 exact⟨fun h y hy=>h y ((ZcW nd y).mpr hy),fun h y hy=>h y ((ZcW nd y).mp hy)⟩
theorem T35.can0(x:T35 P ms ns t old new free):Zfa (Zas P) t old new=true:=by
 rw[Zgl x.ok.nd,Zdg]; exact x.noB
theorem T35.canF(x:T35 P ms ns t old new free){b:List Stm}{i:Nat}{r s:Stm}{own reason:Bool}(R:Rsn t old new free s own reason)(W:Wrp free s r)(hr:reason=true)(hm:own=true→m=t)(nd:((Zcw P m (Zie b i r)).map (·.1)).Nodup):Zfa (Zas (Zcw P m (Zie b i r))) t old new=false:=by
 rw[Zgl nd]
 cases e:Zfa (Zcw P m (Zie b i r)) t old new with
 | false=>rfl
 | true=>exact(Zdg.mp e (m,Zie b i r) Zm7 s (Zkq.mpr (.inr W.has)) (R.bad hr m hm)).elim
theorem T35.canT(x:T35 P ms ns t old new free){b:List Stm}{i:Nat}{r s:Stm}{own reason:Bool}(R:Rsn t old new free s own reason)(W:Wrp free s r)(hr:reason=false)(hb:(m,b)∈P)(nd:((Zcw P m (Zie b i r)).map (·.1)).Nodup):Zfa (Zas (Zcw P m (Zie b i r))) t old new=true:=by
 rw[Zgl nd,Zdg]
 intro y hy s' hs hbad
 rcases Zgj hy with hy | rfl
 ·exact x.noB y hy s' hs hbad
 ·rcases Zkq.mp hs with hs | hs
  ·exact x.noB _ hb s' hs hbad
  ·obtain⟨_,rfl⟩:=R.good hr
   have nf:=x.nf
   simp only[Yn,Ya,or_false,not_or]at nf
   have b0:¬ ZqG t old new m (.shw (.of free free)):=by
    rintro(z | z | z | z)
    ·cases z
    ·simp[plS,plT,Stm.exprs,ZcR]at z; exact nf.1 z.symm
    ·simp[plS,plT,Stm.exprs,ZcR]at z; exact nf.2 z.symm
    ·simp[plS,plT,Stm.exprs,ZcR]at z; exact nf.2 z.2.symm
   cases W with
   | none =>
     simp only[Stm.all,Ye]at hs
     rw[hs]at hbad; exact b0 hbad
   | ite =>
     simp only[Stm.all,allL,List.nil_append,List.append_nil,Yn,Ya,or_false]at hs
     rcases hs with rfl | rfl
     ·rcases hbad with z | z | z | z
      ·cases z
      all_goals simp[plS,plT,Stm.exprs,Ze4]at z
     ·exact b0 hbad
   | fn =>
     simp only[Stm.all,allL,List.append_nil,Yn,Ya,or_false]at hs
     rcases hs with rfl | rfl
     ·rcases hbad with z | z | z | z
      ·cases z
      ·simp[plS,plT,Stm.exprs]at z
      ·simp[plS,plT,Stm.exprs]at z
      ·simp[plS,plT,Stm.exprs]at z; exact nf.2 z.2.symm
     ·exact b0 hbad
def apB(old new free:Str):List Stm:=[.set new (.int 1),.fn old [.del new],.shw (.of new free)]
theorem T35.apOk(x:T35 P ms ns t old new free):Zcr (apB old new free):=by
 have ww:wfL (apB old new free):=⟨⟨x.on,Ex.wf_one⟩,⟨x.okn _ x.o,x.on,trivial⟩,⟨x.on,x.fr⟩,trivial⟩
 exact⟨ww,by simp[apB,depL,Stm.dep],by simp[apB,cntL,Stm.cnt],Zjs ww (by simp[apB,depL,Stm.dep])⟩
theorem T35.canA(x:T35 P ms ns t old new free){k:Str}(hk:k∉ms)(nd:((Zcw P k (apB old new free)).map (·.1)).Nodup):Zfa (Zas (Zcw P k (apB old new free))) t old new=true:=by
 rw[Zgl nd,Zdg]
 intro y hy s hs hbad
 have kt:t≠k:=fun z=>hk (by rw[← z]; exact x.t)
 have nf:=x.nf
 simp only[Yn,Ya,or_false,not_or]at nf
 rcases Zgj hy with hy | rfl
 ·exact x.noB y hy s hs hbad
 ·simp only[apB,allL,Stm.all,List.append_nil,YB,List.nil_append,Yn,Ya,or_false]at hs
  rcases hs with rfl | rfl | rfl | rfl
  ·rcases hbad with z | z | z | z
   ·cases z
   ·simp[plS,plT,Stm.exprs,Ze4]at z
   ·simp[plS,plT,Stm.exprs,Ze4]at z
   ·simp[plS,plT,Stm.exprs,Ze4]at z; exact kt z
  ·rcases hbad with z | z | z | z
   ·cases z
   ·simp[plS,plT,Stm.exprs]at z
   ·simp[plS,plT,Stm.exprs]at z
   ·simp[plS,plT,Stm.exprs]at z; exact kt z.1
  ·rcases hbad with z | z | z | z
   ·cases z
   ·simp[plS,plT,Stm.exprs]at z
   ·simp[plS,plT,Stm.exprs]at z
   ·simp[plS,plT,Stm.exprs]at z; exact kt z
  ·rcases hbad with z | z | z | z
   ·cases z
   ·simp[plS,plT,Stm.exprs,ZcR]at z; exact nf.1 z.symm
   ·simp[plS,plT,Stm.exprs,ZcR]at z; exact nf.2 z.symm
   ·simp[plS,plT,Stm.exprs,ZcR]at z; exact kt z
end
end M
namespace M
open PySem PySem.Spec PyProof.Rows L2 L2H SlX
local macro_rules | `(tactic| row_readAll n4) => `(tactic| simp only [Zcc, Zcd, Zc7, Zh4, Zce, Zfx, Zc8, Zg6])
local macro_rules | `(tactic| row_readAll gg) => `(tactic| ((try row_readAll go); (try row_readAll n4); (try row_readAll go); (try row_readAll n4); (try row_readAll go)))
def Zkr(K:YC):Sp:=fun vs H Q _=>∃ (a:YF) (ns:List Int),vs=[.ref a]∧SqL K H a (ns.map V.int)∧ns.length ≤ 63∧∀ H',Q (.bl true) H'
def ZjC(K:YC)(CP:YF):TS:=(Xb (Xm (tIf (tB (tOp rInD (tC (.str "apart")) (YU 15))) (tC .non) (Xo (Zz K CP) [] E0 (YV (tMake CP (Zi K CP) [] E0 (YV (YU 10) Y1)) (YV (YU 16) (YV (YU 17) (YV (YU 18) Y1)))))) (Y6 12))
 (Xk (Xe (tOp rNotN (YU 12) (tC .non))) (Xj (tC (.bl false))) Xq))
def ZjD(K:YC)(CP:YF):TS:=(Xb (Xm (Zf K (YV (Zf K (YV (tC (.str "set")) (YV (YU 18) (YV (tC (.int 1)) Y1)))) (YV (Zf K (YV (tC (.str "def")) (YV (YU 17) (YV (Zf K (YV (Zf K (YV (tC (.str "del")) (YV (YU 18) Y1))) Y1)) Y1)))) (YV (YU 11) Y1)))) (gSub (YU 10) (tC (.str "apart")) rSetD))
 (ZjC K CP))
def ZjE(K:YC)(CP:YF):TS:=(Xb (Xm (Zf K (YV (tC (.str "show")) (YV (Zf K (YV (tC (.str "of")) (YV (YU 18) (YV (YU 3) Y1)))) Y1))) (Y6 11))
 (ZjD K CP))
def ZjF(K:YC)(CP:YF):TS:=(Xb (Xm (tCB Zh3 (YV (YU 15) Y1)) (Y6 10))
 (ZjE K CP))
def ZjG(K:YC)(CP:YF):TS:=(Xb (Xk (Xe (tOp (Zi8 K) (Xo (Zz K CP) [] E0 (YV (tMake CP (Zi K CP) [] E0 (YV (YU 9) Y1)) (YV (YU 16) (YV (YU 17) (YV (tC (.str "Z")) Y1))))) (tC (.str "name")))) (Xj (tC (.bl false))) Xq)
 (ZjF K CP))
def ZjH(K:YC)(CP:YF):TS:=(Xb (Xk (Xe (tOp rNotN (Xo (Zz K CP) [] E0 (YV (tMake CP (Zi K CP) [] E0 (YV (YU 9) Y1)) (YV (YU 16) (YV (YU 18) (YV (YU 18) Y1))))) (tC .non))) (Xj (tC (.bl false))) Xq)
 (ZjG K CP))
def ZjI(K:YC)(CP:YF):TS:=(Xb (Xk (Xe (tOp (Zi8 K) (Xo (Zz K CP) [] E0 (YV (tMake CP (Zi K CP) [] E0 (YV (YU 9) Y1)) (YV (YU 16) (YV (YU 17) (YV (YU 18) Y1))))) (tIf (tB (YU 21)) (tC (.str "cannot")) (tC .non)))) (Xj (tC (.bl false))) Xq)
 (ZjH K CP))
def ZjJ(K:YC)(CP:YF):TS:=(Xb (Xm (tOp (rAdd K) (tOp (rAdd K) (L2.tSl (rSlA K) (tOp rIxD (YU 15) (YU 6)) tNoPart (tPart (YU 8))) (Zf K (YV (YU 19) Y1))) (L2.tSl (rSlA K) (tOp rIxD (YU 15) (YU 6)) (tPart (YU 8)) tNoPart)) (gSub (YU 9) (YU 6) rSetD))
 (ZjI K CP))
def ZjK(K:YC)(CP:YF):TS:=(Xb (Xm (tCB Zh3 (YV (YU 15) Y1)) (Y6 9))
 (ZjJ K CP))
def ZjL(K:YC)(CP:YF):TS:=(Xb (Xm (Xo (Zd K) [] E0 (YV (YU 1) (YV (tOp (rAdd K) (tCB (rLen K) (YV (tOp rIxD (YU 15) (YU 6)) Y1)) (tC (.int 1))) Y1))) (Y6 8))
 (ZjK K CP))
def ZjM(K:YC)(CP:YF):TS:=(Xb (Xm (Xo (Zd K) [] E0 (YV (YU 1) (YV (tC (.int 3)) Y1))) (Y6 7))
 (Xb (Xk (Xe (tOp Zl7 (YU 7) (tC (.int 0)))) (Xm (tIf (Xe (tOp (ZbB K) (YU 7) (tC (.int 1)))) (Zf K (YV (tC (.str "if")) (YV (tC (.int 0)) (YV (Zf K Y1) (YV (Zf K (YV (YU 19) Y1)) Y1))))) (Zf K (YV (tC (.str "def")) (YV (YU 3) (YV (Zf K (YV (YU 19) Y1)) Y1))))) (Y6 19)) Xq)
 (ZjL K CP)))
def ZjN(K:YC)(CP:YF):TS:=(Xb (Xm (tIf (tB (YU 20)) (YU 16) (tOp (rIx K) (YU 13) (Xo (Zd K) [] E0 (YV (YU 1) (YV (tCB (rLen K) (YV (YU 13) Y1)) Y1))))) (Y6 6))
 (ZjM K CP))
def ZjO(K:YC)(CP:YF):TS:=(Xb (Xm (Xo (ZbA K) [] E0 (YV (YU 1) (YV (YU 16) (YV (YU 17) (YV (YU 18) (YV (YU 3) Y1)))))) (gTup K 3 (gCons (Y6 19) (gCons (Y6 20) (gCons (Y6 21) gNil)))))
 (ZjN K CP))
def ZjP(K:YC)(CP:YF):TS:=(Xb (Xk (Xe (tOp (Zi8 K) (Xo (Zz K CP) [] E0 (YV (YU 4) (YV (YU 16) (YV (YU 17) (YV (YU 5) Y1))))) (tC (.str "name")))) (Xj (tC (.bl false))) Xq)
 (ZjO K CP))
def ZjQ(K:YC)(CP:YF):TS:=(Xb (Xm (tOp (rIx K) (Zbi (YV (tC (.str "")) (YV (tC (.str "A")) (YV (tC (.str "abcdefghi")) (YV (tC (.str "a1")) (YV (tC (.str "a b")) Y1)))))) (Xo (Zd K) [] E0 (YV (YU 1) (YV (tC (.int 5)) Y1)))) (Y6 5))
 (ZjP K CP))
def ZjR(K:YC)(CP:YF):TS:=(Xb (Xk (Xe (tOp (Zi8 K) (Xo (Zz K CP) [] E0 (YV (YU 4) (YV (tC (.str "Z")) (YV (YU 17) (YV (tC (.str "")) Y1))))) (tC (.str "Z")))) (Xj (tC (.bl false))) Xq)
 (ZjQ K CP))
def ZjS(K:YC)(CP:YF):TS:=(Xb (Xk (Xe (tOp rNotN (Xo (Zz K CP) [] E0 (YV (YU 4) (YV (YU 16) (YV (YU 17) (YV (YU 18) Y1))))) (tC .non))) (Xj (tC (.bl false))) Xq)
 (ZjR K CP))
def ZjT(K:YC)(CP:YF):TS:=(Xb (Xm (tMake CP (Zi K CP) [] E0 (YV (tCB Zh3 (YV (YU 15) Y1)) Y1)) (Y6 4))
 (ZjS K CP))
def ZjU(K:YC)(CP:YF):TS:=(Xb (Xm (tOp (rIx K) (tLc (Zg4 K (Zbi (YV (tC (.str "z")) (YV (tC (.str "zz")) (YV (tC (.str "zzz")) Y1))))) (Y6 22) (Xe (tOp (ZbD K) (YU 22) (Zf K (YV (YU 17) (YV (YU 18) Y1))))) (YU 22) [22]) (tC (.int 0))) (Y6 3))
 (ZjT K CP))
def Zl4(K:YC)(CP:YF):TS:=(Xb (Xm (Xo (Zat K) [] E0 (YV (YU 1) Y1)) (gTup K 6 (gCons (Y6 13) (gCons (Y6 14) (gCons (Y6 15) (gCons (Y6 16) (gCons (Y6 17) (gCons (Y6 18) gNil))))))))
 (ZjU K CP))
def Zm8(K:YC)(CP:YF):TS:=(Xb (Xm (Xo (ZcM K) [] E0 (YV (YU 0) (YV (tC (.int 45)) Y1))) (Y6 1))
 (Xb (tFor (iRng1 (YV (tC (.int 7)) Y1)) (Y6 2) (Zl4 K CP))
 (Xj (tC (.bl true)))))
def Zsw:List Str:=["_law_script", "_law_h", "_law_turn", "_law_free", "_law_made", "_law_bad", "_law_module", "_law_where", "_law_at", "_law_other", "_law_apart", "_law_last", "_law_told", "_law_modules", "_law_names_here", "_law_program_here", "_law_target", "_law_old", "_law_new", "_law_row", "_law_own", "_law_reason_here", "_law_each"]
section
variable {K:YC} {H H':Hp} {Q:VK} {E:XK} {CP a:YF} {P:Prg} {pf:List YF} {m old new:Str}
theorem ZnA(x:Zbs K H CP a (Zas P) pf)(ok:Zbm P)(ln:new.length ≤ 4000)(so:PyData.strOk new=true)
  (h:(m∉P.map (·.1)∧∀ H',Zb [] H H'→Q (.str m) H')∨(m∈P.map (·.1)∧ZeM new=false∧∀ H',Zb [] H H'→Q (.str "name") H')∨(m∈P.map (·.1)∧okN old∧okN new∧old≠new∧Zfa (Zas P) m old new=false∧∀ H',Zb [] H H'→Q (.str "cannot") H') ∨
   (m∈P.map (·.1)∧okN old∧okN new∧(old≠new→Zfa (Zas P) m old new=true)∧∀ H',Zb [] H H'→Q .non H')):Zz K CP [.ref a,.str m,.str old,.str new] H Q E:=by
 have om:m∈P.map (·.1)→okN m:=fun hm=>by
  obtain⟨z,hz,rfl⟩:=Yq.mp hm
  exact ok.nm z hz
 have vS:m∈P.map (·.1)→(valA (Zas P) m).isSome=true:=(Zhz ok.nd m).mpr
 refine⟨a,Zas P,pf,m,old,new,rfl,x,ok.sortR,ln,so,?_⟩
 rcases h with⟨e,q⟩ | ⟨e,e2,q⟩ | ⟨e,oo,on,ne,e2,q⟩ | ⟨e,oo,on,e2,q⟩
 ·refine .inl ⟨?_,q⟩
  cases hv:valA (Zas P) m with
  | none=>rfl
  | some b=>exact(e ((Zhz ok.nd m).mp (by rw[hv]; rfl))).elim
 ·exact .inr (.inl ⟨vS e,e2,q⟩)
 ·exact .inr (.inr (.inl ⟨vS e,om e,oo,on,ne,e2,q⟩))
 ·exact .inr (.inr (.inr ⟨vS e,om e,oo,on,e2,q⟩))
end
theorem Zm9{K:YC}{H:Hp}{P:Prg}{m:List (Key×V)}{x:Str}(r:Zc1 kS (Zq5 K H) m P):(valV m (.inr x)).isSome=decide (x∈P.map (·.1)):=by
 rcases r.val Zdm x with⟨z1,z2⟩ | ⟨v,b,z1,z2,_⟩
 ·rw[show valV m (.inr x)=none from z1,decide_eq_false (ZcJ.mp z2)]; rfl
 ·rw[show valV m (.inr x)=some v from z1,decide_eq_true (Yv (f:=(·.1)) (ZbS z2))]; rfl
structure B35(K:YC)(CP:YF)(H:Hp)(h c ml nl d A:YF)(pf:List YF)(ms ns:List Str)(P:Prg)(t old new free:Str):Prop where
 M:MN H h c ml nl ms ns
 dp:Zbc K H d P
 x:T35 P ms ns t old new free
 xp:Zbs K H CP A (Zas P) pf
 np:∀ b∈pf,b∉[h,c]
 nd:d∉[h,c]
section
variable {K:YC} {H H':Hp} {CP h c ml nl d A dO dA:YF} {P:Prg} {pf:List YF} {ms ns:List Str} {t old new free m:Str} {D:Ends} {v0 v1 v2 v3 v4 v5 v6 v7 v8 v9 v10 v11 v12 v13 v14 v15 v16 v17 v18 v19 v20 v21 v22:Option V}
theorem B35.k0(b:B35 K CP H h c ml nl d A pf ms ns P t old new free)(k:Zb [] H H'):B35 K CP H' h c ml nl d A pf ms ns P t old new free:=⟨b.M.k0 k,b.dp.k0 k,b.x,b.xp.k0 k,b.np,b.nd⟩
theorem B35.keep(b:B35 K CP H h c ml nl d A pf ms ns P t old new free)(k:Zb [h,c] H H')(D':Drw H' h c):B35 K CP H' h c ml nl d A pf ms ns P t old new free:=⟨b.M.keep k D',b.dp.keep k b.nd,b.x,b.xp.keep k b.np,b.np,b.nd⟩
theorem Zsx(nf0:True)(b:B35 K CP H h c ml nl d A pf ms ns P t old new free)(dpA:Zbc K H dA (Zcw P "apart" (apB old new free)))
  (q:∀ v5 v6 v7 v8 v9 v10 v11 v12 v19 v20 v21 v22 H',Drw H' h c→D.nx [v0,some (.ref h),v2,some (.str free),some (.ref A),v5,v6,v7,v8,v9,v10,v11,v12,some (.ref ml),some (.ref nl),some (.ref d),some (.str t),some (.str old),some (.str new),v19,v20,v21,v22] H') :
  ZjC K CP D [v0,some (.ref h),v2,some (.str free),some (.ref A),v5,v6,v7,v8,v9,some (.ref dA),v11,v12,some (.ref ml),some (.ref nl),some (.ref d),some (.str t),some (.str old),some (.str new),v19,v20,v21,v22] H:=by
 unfold ZjC
 have sz:=Z3
 obtain⟨m3,g3,r3⟩:=id b.dp
 row_readAll go
 refine ZpS g3 ?_
 rw[Zm9 r3,b.x.key]
 by_cases hk:("apart" : Str)∈ms
 ·rw[decide_eq_true hk]
  row_readAll gg
  exact q _ _ _ _ _ _ _ _ _ _ _ _ H b.M.d
 ·rw[decide_eq_false hk]
  row_readAll gg
  have hk':("apart" : Str)∉P.map (·.1):=by rw[b.x.key]; exact hk
  have okA:=b.x.ok.add hk' (by have:=b.x.few; omega) (ZiJ (by decide +kernel):okN "apart") b.x.apOk
  refine ZiZ dpA okA fun A2 dA2 nlA eA H5 x5 fr5 k5=>?_
  row_readAll gg
  refine ZnA x5 okA (by have:=b.x.on.2.1; omega) b.x.on.ok (.inr (.inr (.inr ⟨?_,b.x.okn _ b.x.o,b.x.on,fun _=>b.x.canA hk okA.nd,fun H6 k6=>?_⟩)))
  ·rw[Zi1 hk',Yl,Yh]
   exact .inl (by rw[b.x.key]; exact b.x.t)
  ·row_readAll gg
   exact q _ _ _ _ _ _ _ _ _ _ _ _ H6 ((b.M.d.k0 k5).k0 k6)
theorem alive{a b:YF}{P:Prg}(x:Zbs K H CP a P pf)(hb:b∈pf):H b≠none:=by
 obtain⟨dx,nl,d,rfl,h1,h2,h3,m,h4,_⟩:=x.ex
 intro z
 simp only[Yn,Ya,or_false]at hb
 rcases hb with rfl | rfl | rfl | rfl
 ·rcases h1 with⟨y,_⟩ | ⟨y,_⟩ <;> (rw[z]at y; cases y)
 ·rw[z]at h2; cases h2
 ·rw[z]at h3; cases h3
 ·rw[z]at h4; cases h4
theorem Zl5(xs:List V)(n:Nat):cutV xs (some (n:Int)) none=xs.drop n:=by
 unfold cutV
 rw[show HT.sIx xs.length 0 (some (n:Int))=min n xs.length from HT.sIx_nat _ _ n,HT.sIx_none]
 rcases Nat.le_total n xs.length with h | h
 ·rw[Nat.min_eq_left h,List.take_of_length_le (by rw[List.length_drop]; omega)]
 ·rw[Nat.min_eq_right h,List.drop_of_length_le (YQ _),List.drop_of_length_le h]
  simp
theorem ZoL(xs:List V)(n:Nat):cutV xs none (some (n:Int))=xs.take n:=by
 unfold cutV
 rw[show HT.sIx xs.length xs.length (some (n:Int))=min n xs.length from HT.sIx_nat _ _ n,HT.sIx_none]
 rcases Nat.le_total n xs.length with h | h
 ·rw[Nat.min_eq_left h]; simp
 ·rw[Nat.min_eq_right h,List.take_of_length_le h]; simp
structure Off(p h c ml nl d:YF)(pf:List YF):Prop where
 h:p≠h
 c:p≠c
 ml:p≠ml
 nl:p≠nl
 d:p≠d
 pf:p∉pf
theorem B35.off(b:B35 K CP H h c ml nl d A pf ms ns P t old new free){p:YF}(f:H p=none):Off p h c ml nl d pf:=by
 have n:=b.M.d.ne1 f
 refine⟨n.1,n.2,fun z=>?_,fun z=>?_,fun z=>?_,fun z=>alive b.xp z f⟩
 ·have:=b.M.m.at_; rw[← z,f]at this; cases this
 ·have:=b.M.n.at_; rw[← z,f]at this; cases this
 ·obtain⟨m,g,_⟩:=b.dp; rw[← z,f]at g; cases g
theorem B35.upd(b:B35 K CP H h c ml nl d A pf ms ns P t old new free){p:YF}(o:Off p h c ml nl d pf)(k:Zb [p] H H'):B35 K CP H' h c ml nl d A pf ms ns P t old new free:=by
 refine⟨⟨b.M.d.keep k (by simpa using Ne.symm o.h) (by simpa using Ne.symm o.c),⟨k.obj _ _ (by simpa using Ne.symm o.ml) b.M.m.at_,b.M.m.ne,b.M.m.few,b.M.m.ok,b.M.m.n1,b.M.m.n2⟩,⟨k.obj _ _ (by simpa using Ne.symm o.nl) b.M.n.at_,b.M.n.ne,b.M.n.few,b.M.n.ok,b.M.n.n1,b.M.n.n2⟩⟩,b.dp.keep k (by simpa using Ne.symm o.d),b.x,b.xp.keep k fun y hy z=>?_,b.np,b.nd⟩
 rw[Ye.mp z]at hy
 exact o.pf hy
theorem Zsy(nf0:True)(b:B35 K CP H h c ml nl d A pf ms ns P t old new free){l:YF}(dpA:Zbc K H dA P)(off:Off dA h c ml nl d pf)(il:Im K H (.ref l) (Stm.d (.shw (.of new free))))
  (q:∀ v5 v6 v7 v8 v9 v10 v11 v12 v19 v20 v21 v22 H',Drw H' h c→D.nx [v0,some (.ref h),v2,some (.str free),some (.ref A),v5,v6,v7,v8,v9,v10,v11,v12,some (.ref ml),some (.ref nl),some (.ref d),some (.str t),some (.str old),some (.str new),v19,v20,v21,v22] H') :
  ZjD K CP D [v0,some (.ref h),v2,some (.str free),some (.ref A),v5,v6,v7,v8,v9,some (.ref dA),some (.ref l),v12,some (.ref ml),some (.ref nl),some (.ref d),some (.str t),some (.str old),some (.str new),v19,v20,v21,v22] H:=by
 unfold ZjD
 have sz:=Z3
 row_readAll go
 refine Zj (by row_readAll ln) fun a1 H1 f1 k1 s1=>?_
 row_readAll go
 refine Zj (by row_readAll ln) fun a2 H2 f2 k2 s2=>?_
 row_readAll go
 refine Zj (by row_readAll ln) fun a3 H3 f3 k3 s3=>?_
 row_readAll go
 refine Zj (by row_readAll ln) fun a4 H4 f4 k4 s4=>?_
 row_readAll go
 refine Zj (by row_readAll ln) fun a5 H5 f5 k5 s5=>?_
 row_readAll go
 have k25:Zb [] H2 H5:=(k3.trans k4).trans k5
 have k05:Zb [] H H5:=(k1.trans k2).trans k25
 have i1:Im K H5 (.ref a1) (Stm.d (.set new (.int 1))):=.tup (k25.sqT (k2.sqT s1)) (.cons (.str _) (.cons (.str _) (.cons (.int _) .nil)))
 have i4:Im K H5 (.ref a4) (Stm.d (.fn old [.del new])):=.tup (k5.sqT s4) (.cons (.str _) (.cons (.str _) (.cons (.tup (k5.sqT (k4.sqT s3)) (.cons (.tup (k25.sqT s2) (.cons (.str _) (.cons (.str _) .nil))) .nil)) .nil)))
 have i5:Im K H5 (.ref a5) (.tuple (blkD (apB old new free))):=.tup s5 (.cons i1 (.cons i4 (.cons (il.mono k05) .nil)))
 obtain⟨m5,g5,r5⟩:=dpA.k0 k05
 have l5:=r5.length
 have few:=b.x.few
 refine Zj8 g5 (by omega) fun H6 k6 g6=>?_
 have b6:=(b.k0 k05).upd off k6
 row_readAll gg
 exact Zsx trivial b6 ⟨_,g6,(r5.put Zdm (k := "apart") (v:=.ref a5) (x:=apB old new free) i5).mono fun v b i=>i.mono k6⟩ (fun _ _ _ _ _ _ _ _ _ _ _ _ H7 D7=>q _ _ _ _ _ _ _ _ _ _ _ _ H7 D7)
theorem Zsz(nf0:True)(b:B35 K CP H h c ml nl d A pf ms ns P t old new free)(dpA:Zbc K H dA P)(off:Off dA h c ml nl d pf)
  (q:∀ v5 v6 v7 v8 v9 v10 v11 v12 v19 v20 v21 v22 H',Drw H' h c→D.nx [v0,some (.ref h),v2,some (.str free),some (.ref A),v5,v6,v7,v8,v9,v10,v11,v12,some (.ref ml),some (.ref nl),some (.ref d),some (.str t),some (.str old),some (.str new),v19,v20,v21,v22] H') :
  ZjE K CP D [v0,some (.ref h),v2,some (.str free),some (.ref A),v5,v6,v7,v8,v9,some (.ref dA),v11,v12,some (.ref ml),some (.ref nl),some (.ref d),some (.str t),some (.str old),some (.str new),v19,v20,v21,v22] H:=by
 unfold ZjE
 have sz:=Z3
 row_readAll go
 refine Zj (by row_readAll ln) fun a1 H1 f1 k1 s1=>?_
 row_readAll go
 refine Zj (by row_readAll ln) fun a2 H2 f2 k2 s2=>?_
 row_readAll go
 have k02:=k1.trans k2
 exact Zsy trivial (b.k0 k02) (dpA.k0 k02) off (.tup s2 (.cons (.str _) (.cons (.tup (k2.sqT s1) (.cons (.str _) (.cons (.str _) (.cons (.str _) .nil)))) .nil))) (fun _ _ _ _ _ _ _ _ _ _ _ _ H7 D7=>q _ _ _ _ _ _ _ _ _ _ _ _ H7 D7)
theorem ZsA(nf0:True)(b:B35 K CP H h c ml nl d A pf ms ns P t old new free) 
  (q:∀ v5 v6 v7 v8 v9 v10 v11 v12 v19 v20 v21 v22 H',Drw H' h c→D.nx [v0,some (.ref h),v2,some (.str free),some (.ref A),v5,v6,v7,v8,v9,v10,v11,v12,some (.ref ml),some (.ref nl),some (.ref d),some (.str t),some (.str old),some (.str new),v19,v20,v21,v22] H') :
  ZjF K CP D [v0,some (.ref h),v2,some (.str free),some (.ref A),v5,v6,v7,v8,v9,v10,v11,v12,some (.ref ml),some (.ref nl),some (.ref d),some (.str t),some (.str old),some (.str new),v19,v20,v21,v22] H:=by
 unfold ZjF
 have sz:=Z3
 row_readAll gg
 obtain⟨m3,g3,r3⟩:=id b.dp
 refine⟨d,m3,rfl,.inl g3,fun pd H4 f4 k4 g4=>?_⟩
 row_readAll gg
 have off:=b.off f4
 exact Zsz trivial (b.k0 k4) ⟨m3,g4,r3.mono fun v b i=>i.mono k4⟩ off (fun _ _ _ _ _ _ _ _ _ _ _ _ H7 D7=>q _ _ _ _ _ _ _ _ _ _ _ _ H7 D7)
theorem ZsB(nf0:True)(b:B35 K CP H h c ml nl d A pf ms ns P t old new free){P2:Prg}(dpO:Zbc K H dO P2)(okO:Zbm P2)(kO:P2.map (·.1)=ms)
  (q:∀ v5 v6 v7 v8 v9 v10 v11 v12 v19 v20 v21 v22 H',Drw H' h c→D.nx [v0,some (.ref h),v2,some (.str free),some (.ref A),v5,v6,v7,v8,v9,v10,v11,v12,some (.ref ml),some (.ref nl),some (.ref d),some (.str t),some (.str old),some (.str new),v19,v20,v21,v22] H') :
  ZjG K CP D [v0,some (.ref h),v2,some (.str free),some (.ref A),v5,v6,v7,v8,some (.ref dO),v10,v11,v12,some (.ref ml),some (.ref nl),some (.ref d),some (.str t),some (.str old),some (.str new),v19,v20,v21,v22] H:=by
 unfold ZjG
 have sz:=Z3
 row_readAll gg
 refine ZiZ dpO okO fun A2 dA2 nlA eA H5 x5 fr5 k5=>?_
 row_readAll gg
 refine ZnA x5 okO (by decide +kernel) (by decide +kernel) (.inr (.inl ⟨by rw[kO]; exact b.x.t,by decide +kernel,fun H6 k6=>?_⟩))
 row_readAll gg
 exact ZsA trivial ((b.k0 k5).k0 k6) (fun _ _ _ _ _ _ _ _ _ _ _ _ H7 D7=>q _ _ _ _ _ _ _ _ _ _ _ _ H7 D7)
theorem ZqH(nf0:True)(b:B35 K CP H h c ml nl d A pf ms ns P t old new free){P2:Prg}(dpO:Zbc K H dO P2)(okO:Zbm P2)(kO:P2.map (·.1)=ms)
  (q:∀ v5 v6 v7 v8 v9 v10 v11 v12 v19 v20 v21 v22 H',Drw H' h c→D.nx [v0,some (.ref h),v2,some (.str free),some (.ref A),v5,v6,v7,v8,v9,v10,v11,v12,some (.ref ml),some (.ref nl),some (.ref d),some (.str t),some (.str old),some (.str new),v19,v20,v21,v22] H') :
  ZjH K CP D [v0,some (.ref h),v2,some (.str free),some (.ref A),v5,v6,v7,v8,some (.ref dO),v10,v11,v12,some (.ref ml),some (.ref nl),some (.ref d),some (.str t),some (.str old),some (.str new),v19,v20,v21,v22] H:=by
 unfold ZjH
 have sz:=Z3
 row_readAll gg
 refine ZiZ dpO okO fun A2 dA2 nlA eA H5 x5 fr5 k5=>?_
 row_readAll gg
 refine ZnA x5 okO (by have:=b.x.on.2.1; omega) b.x.on.ok (.inr (.inr (.inr ⟨by rw[kO]; exact b.x.t,b.x.on,b.x.on,fun z=>absurd rfl z,fun H6 k6=>?_⟩)))
 row_readAll gg
 exact ZsB trivial ((b.k0 k5).k0 k6) ((dpO.k0 k5).k0 k6) okO kO (fun _ _ _ _ _ _ _ _ _ _ _ _ H7 D7=>q _ _ _ _ _ _ _ _ _ _ _ _ H7 D7)
theorem ZsC(nf0:True)(b:B35 K CP H h c ml nl d A pf ms ns P t old new free){rs:Bool}{P2:Prg}(dpO:Zbc K H dO P2)(okO:Zbm P2)(kO:P2.map (·.1)=ms)(cF:rs=true→Zfa (Zas P2) t old new=false)(cT:rs=false→Zfa (Zas P2) t old new=true)
  (q:∀ v5 v6 v7 v8 v9 v10 v11 v12 v19 v20 v21 v22 H',Drw H' h c→D.nx [v0,some (.ref h),v2,some (.str free),some (.ref A),v5,v6,v7,v8,v9,v10,v11,v12,some (.ref ml),some (.ref nl),some (.ref d),some (.str t),some (.str old),some (.str new),v19,v20,v21,v22] H') :
  ZjI K CP D [v0,some (.ref h),v2,some (.str free),some (.ref A),v5,v6,v7,v8,some (.ref dO),v10,v11,v12,some (.ref ml),some (.ref nl),some (.ref d),some (.str t),some (.str old),some (.str new),v19,v20,some (.bl rs),v22] H:=by
 unfold ZjI
 have sz:=Z3
 row_readAll gg
 refine ZiZ dpO okO fun A2 dA2 nlA eA H5 x5 fr5 k5=>?_
 row_readAll gg
 have hl:new.length ≤ 4000:=by have:=b.x.on.2.1; omega
 cases rs with
 | true =>
   refine ZnA x5 okO hl b.x.on.ok (.inr (.inr (.inl ⟨by rw[kO]; exact b.x.t,b.x.okn _ b.x.o,b.x.on,b.x.ne,cF rfl,fun H6 k6=>?_⟩)))
   row_readAll gg
   exact ZqH trivial ((b.k0 k5).k0 k6) ((dpO.k0 k5).k0 k6) okO kO (fun _ _ _ _ _ _ _ _ _ _ _ _ H7 D7=>q _ _ _ _ _ _ _ _ _ _ _ _ H7 D7)
 | false =>
   refine ZnA x5 okO hl b.x.on.ok (.inr (.inr (.inr ⟨by rw[kO]; exact b.x.t,b.x.okn _ b.x.o,b.x.on,fun _=>cT rfl,fun H6 k6=>?_⟩)))
   row_readAll gg
   refine ZpB (Im.dp .non) (Im.dp .non) (by decide +kernel) (by decide +kernel) ?_
   row_readAll gg
   exact ZqH trivial ((b.k0 k5).k0 k6) ((dpO.k0 k5).k0 k6) okO kO (fun _ _ _ _ _ _ _ _ _ _ _ _ H7 D7=>q _ _ _ _ _ _ _ _ _ _ _ _ H7 D7)
theorem ZsD(nf0:True)(b:B35 K CP H h c ml nl d A pf ms ns P t old new free){rs own:Bool}{i:Nat}{rv:V}{r s:Stm}(dpO:Zbc K H dO P)(off:Off dO h c ml nl d pf)(hm:m∈ms)(ir:Im K H rv (Stm.d r))(R:Rsn t old new free s own rs)(W:Wrp free s r)(ho:own=true→m=t)
  (q:∀ v5 v6 v7 v8 v9 v10 v11 v12 v19 v20 v21 v22 H',Drw H' h c→D.nx [v0,some (.ref h),v2,some (.str free),some (.ref A),v5,v6,v7,v8,v9,v10,v11,v12,some (.ref ml),some (.ref nl),some (.ref d),some (.str t),some (.str old),some (.str new),v19,v20,v21,v22] H') :
  ZjJ K CP D [v0,some (.ref h),v2,some (.str free),some (.ref A),v5,some (.str m),v7,some (.int (i:Nat)),some (.ref dO),v10,v11,v12,some (.ref ml),some (.ref nl),some (.ref d),some (.str t),some (.str old),some (.str new),some rv,v20,some (.bl rs),v22] H:=by
 unfold ZjJ
 have sz:=Z3
 have few:=b.x.few
 obtain⟨v,bb,eb,i1,gv⟩:=b.dp.val (n:=m) (by rw[b.x.key]; exact hm)
 have mb:=ZbS eb
 obtain⟨cn,dp2,ln⟩:=b.x.sm _ mb
 have ln:bb.length ≤ 7:=ln
 obtain⟨c1,xs,rfl,s1,al⟩:=i1.of_tup
 have lx:=al.length
 rw[Z_,Yb]at lx
 row_readAll gg
 refine gv _ ?_
 row_readAll gg
 refine ZmH s1 fun p1 H1 k1 t1=>?_
 rw[ZoL]at t1
 row_readAll gg
 refine Zj (by row_readAll ln) fun p2 H2 f2 k2 t2=>?_
 refine Zim (k2.sqT t1) t2 (by rw[Yu]; simp only[Yd,Yi]; omega) fun p3 H3 k3 t3=>?_
 have k03:Zb [] H H3:=(k1.trans k2).trans k3
 row_readAll gg
 obtain⟨v',bb',eb',i1',gv'⟩:=(b.dp.k0 k03).val (n:=m) (by rw[b.x.key]; exact hm)
 rw[eb]at eb'
 cases eb'
 row_readAll gg
 refine gv' _ ?_
 obtain⟨c4,xs4,rfl,s4,al4⟩:=i1'.of_tup
 have lx4:=al4.length
 rw[Z_,Yb]at lx4
 row_readAll gg
 refine ZmH s4 fun p4 H4 k4 t4=>?_
 rw[Zl5]at t4
 refine Zim (k4.sqT t3) t4 (by rw[Yc,Yu,List.length_drop]; simp only[Yd,Yi]; omega) fun p5 H5 k5 t5=>?_
 have k05:Zb [] H H5:=(k03.trans k4).trans k5
 have k35:Zb [] H3 H5:=k4.trans k5
 row_readAll gg
 have i5:Im K H5 (.ref p5) (.tuple (blkD (Zie bb i r))):=by
  refine .tup t5 ?_
  unfold Zie
  rw[Z_,Yl,Yl,List.map_take,List.map_drop]
  rw[Z_]at al al4
  exact(((al.take i).mono k05).append (.cons (ir.mono k05) .nil)).append ((al4.drop i).mono k35)
 obtain⟨m5,g5,r5⟩:=dpO.k0 k05
 have l5:=r5.length
 refine Zj8 g5 (by omega) fun H6 k6 g6=>?_
 have b6:=(b.k0 k05).upd off k6
 have mk:m∈P.map (·.1):=by rw[b.x.key]; exact hm
 have okb:Zcr (Zie bb i r):=Zcr.ins (b.x.ok.blk _ mb).wf dp2 cn (W.wf R.wf b.x.fr) (W.dep R.dep) (W.cnt R.cnt)
 have okO:Zbm (Zcw P m (Zie bb i r)):=b.x.ok.put mk okb
 row_readAll gg
 exact ZsC trivial b6 ⟨_,g6,(r5.put Zdm (k:=m) (v:=.ref p5) (x:=Zie bb i r) i5).mono fun v b i=>i.mono k6⟩ okO (by rw[ZgX mk]; exact b.x.key) (fun e=>b.x.canF R W e ho okO.nd) (fun e=>b.x.canT R W e mb okO.nd) (fun _ _ _ _ _ _ _ _ _ _ _ _ H7 D7=>q _ _ _ _ _ _ _ _ _ _ _ _ H7 D7)
theorem ZsE(nf0:True)(b:B35 K CP H h c ml nl d A pf ms ns P t old new free){i:Nat}{rs own:Bool}{r s:Stm}{rv:V}(hm:m∈ms)(ir:Im K H rv (Stm.d r))(R:Rsn t old new free s own rs)(W:Wrp free s r)(ho:own=true→m=t)
  (q:∀ v5 v6 v7 v8 v9 v10 v11 v12 v19 v20 v21 v22 H',Drw H' h c→D.nx [v0,some (.ref h),v2,some (.str free),some (.ref A),v5,v6,v7,v8,v9,v10,v11,v12,some (.ref ml),some (.ref nl),some (.ref d),some (.str t),some (.str old),some (.str new),v19,v20,v21,v22] H') :
  ZjK K CP D [v0,some (.ref h),v2,some (.str free),some (.ref A),v5,some (.str m),v7,some (.int (i:Nat)),v9,v10,v11,v12,some (.ref ml),some (.ref nl),some (.ref d),some (.str t),some (.str old),some (.str new),some rv,v20,some (.bl rs),v22] H:=by
 unfold ZjK
 have sz:=Z3
 row_readAll gg
 obtain⟨m3,g3,r3⟩:=id b.dp
 refine⟨d,m3,rfl,.inl g3,fun pd H4 f4 k4 g4=>?_⟩
 row_readAll gg
 exact ZsD trivial (b.k0 k4) ⟨m3,g4,r3.mono fun v b i=>i.mono k4⟩ (b.off f4) hm (ir.mono k4) R W ho (fun _ _ _ _ _ _ _ _ _ _ _ _ H7 D7=>q _ _ _ _ _ _ _ _ _ _ _ _ H7 D7)
theorem ZoM(nf0:True)(b:B35 K CP H h c ml nl d A pf ms ns P t old new free){rs own:Bool}{r s:Stm}{rv:V}(hm:m∈ms)(ir:Im K H rv (Stm.d r))(R:Rsn t old new free s own rs)(W:Wrp free s r)(ho:own=true→m=t)
  (q:∀ v5 v6 v7 v8 v9 v10 v11 v12 v19 v20 v21 v22 H',Drw H' h c→D.nx [v0,some (.ref h),v2,some (.str free),some (.ref A),v5,v6,v7,v8,v9,v10,v11,v12,some (.ref ml),some (.ref nl),some (.ref d),some (.str t),some (.str old),some (.str new),v19,v20,v21,v22] H') :
  ZjL K CP D [v0,some (.ref h),v2,some (.str free),some (.ref A),v5,some (.str m),v7,v8,v9,v10,v11,v12,some (.ref ml),some (.ref nl),some (.ref d),some (.str t),some (.str old),some (.str new),some rv,v20,some (.bl rs),v22] H:=by
 unfold ZjL
 have sz:=Z3
 obtain⟨v,bb,eb,i1,gv⟩:=b.dp.val (n:=m) (by rw[b.x.key]; exact hm)
 obtain⟨cn,dp2,ln⟩:=b.x.sm _ (ZbS eb)
 have ln:bb.length ≤ 7:=ln
 obtain⟨c1,xs,rfl,s1,al⟩:=i1.of_tup
 have lx:=al.length
 rw[Z_,Yb]at lx
 row_readAll gg
 refine gv _ ?_
 row_readAll gg
 refine Znc s1 ?_
 row_readAll gg
 refine Zf2 b.M.d (by omega) (by omega) fun u H1 u0 u1 k1 D1=>?_
 obtain⟨j,rfl⟩:∃ j:Nat,u=(j:Int):=⟨u.toNat,by omega⟩
 row_readAll gg
 exact ZsE trivial (b.keep k1 D1) hm (ir.mono k1) R W ho (fun _ _ _ _ _ _ _ _ _ _ _ _ H7 D7=>q _ _ _ _ _ _ _ _ _ _ _ _ H7 D7)
theorem ZqI(nf0:True)(b:B35 K CP H h c ml nl d A pf ms ns P t old new free){rs own:Bool}{s:Stm}{rv:V}(hm:m∈ms)(ir:Im K H rv (Stm.d s))(R:Rsn t old new free s own rs)(ho:own=true→m=t)
  (q:∀ v5 v6 v7 v8 v9 v10 v11 v12 v19 v20 v21 v22 H',Drw H' h c→D.nx [v0,some (.ref h),v2,some (.str free),some (.ref A),v5,v6,v7,v8,v9,v10,v11,v12,some (.ref ml),some (.ref nl),some (.ref d),some (.str t),some (.str old),some (.str new),v19,v20,v21,v22] H') :
  ZjM K CP D [v0,some (.ref h),v2,some (.str free),some (.ref A),v5,some (.str m),v7,v8,v9,v10,v11,v12,some (.ref ml),some (.ref nl),some (.ref d),some (.str t),some (.str old),some (.str new),some rv,v20,some (.bl rs),v22] H:=by
 unfold ZjM
 have sz:=Z3
 row_readAll gg
 refine Zf2 b.M.d (by decide) (by decide) fun u H1 u0 u1 k1 D1=>?_
 have b1:=b.keep k1 D1
 have ir1:=ir.mono k1
 row_readAll gg
 by_cases h0:u > 0
 ·rw[decide_eq_true h0]
  row_readAll gg
  by_cases h1:u=1
  ·rw[decide_eq_true h1]
   row_readAll gg
   refine Zj (by row_readAll ln) fun a2 H2 f2 k2 s2=>?_
   row_readAll gg
   refine Zj (by row_readAll ln) fun a3 H3 f3 k3 s3=>?_
   row_readAll gg
   refine Zj (by row_readAll ln) fun a4 H4 f4 k4 s4=>?_
   row_readAll gg
   have k24:Zb [] H2 H4:=k3.trans k4
   have k14:Zb [] H1 H4:=k2.trans k24
   exact ZoM trivial (b1.k0 k14) hm (r:=.ite (.int 0) [] [s]) (.tup s4 (.cons (.str _) (.cons (.int _) (.cons (.tup (k24.sqT s2) .nil) (.cons (.tup (k4.sqT s3) (.cons (ir1.mono k14) .nil)) .nil))))) R .ite ho (fun _ _ _ _ _ _ _ _ _ _ _ _ H7 D7=>q _ _ _ _ _ _ _ _ _ _ _ _ H7 D7)
  ·rw[decide_eq_false h1]
   row_readAll gg
   refine Zj (by row_readAll ln) fun a2 H2 f2 k2 s2=>?_
   row_readAll gg
   refine Zj (by row_readAll ln) fun a3 H3 f3 k3 s3=>?_
   row_readAll gg
   have k13:Zb [] H1 H3:=k2.trans k3
   exact ZoM trivial (b1.k0 k13) hm (r:=.fn free [s]) (.tup s3 (.cons (.str _) (.cons (.str _) (.cons (.tup (k3.sqT s2) (.cons (ir1.mono k13) .nil)) .nil)))) R .fn ho (fun _ _ _ _ _ _ _ _ _ _ _ _ H7 D7=>q _ _ _ _ _ _ _ _ _ _ _ _ H7 D7)
 ·rw[decide_eq_false h0]
  row_readAll gg
  exact ZoM trivial b1 hm ir1 R .none ho (fun _ _ _ _ _ _ _ _ _ _ _ _ H7 D7=>q _ _ _ _ _ _ _ _ _ _ _ _ H7 D7)
theorem ZsF(nf0:True)(b:B35 K CP H h c ml nl d A pf ms ns P t old new free){rs own:Bool}{s:Stm}{rv:V}(ir:Im K H rv (Stm.d s))(R:Rsn t old new free s own rs)
  (q:∀ v5 v6 v7 v8 v9 v10 v11 v12 v19 v20 v21 v22 H',Drw H' h c→D.nx [v0,some (.ref h),v2,some (.str free),some (.ref A),v5,v6,v7,v8,v9,v10,v11,v12,some (.ref ml),some (.ref nl),some (.ref d),some (.str t),some (.str old),some (.str new),v19,v20,v21,v22] H') :
  ZjN K CP D [v0,some (.ref h),v2,some (.str free),some (.ref A),v5,v6,v7,v8,v9,v10,v11,v12,some (.ref ml),some (.ref nl),some (.ref d),some (.str t),some (.str old),some (.str new),some rv,some (.bl own),some (.bl rs),v22] H:=by
 unfold ZjN
 have sz:=Z3
 cases own with
 | true =>
   row_readAll gg
   exact ZqI trivial b b.x.t ir R (fun _=>rfl) (fun _ _ _ _ _ _ _ _ _ _ _ _ H7 D7=>q _ _ _ _ _ _ _ _ _ _ _ _ H7 D7)
 | false =>
   row_readAll gg
   refine b.M.m.draw b.M.d fun m H1 hm om k1 D1 N1=>?_
   row_readAll gg
   exact ZqI trivial (b.keep k1 D1) hm (ir.mono k1) R (fun z=>by cases z) (fun _ _ _ _ _ _ _ _ _ _ _ _ H7 D7=>q _ _ _ _ _ _ _ _ _ _ _ _ H7 D7)
theorem ZsG(nf0:True)(b:B35 K CP H h c ml nl d A pf ms ns P t old new free) 
  (q:∀ v5 v6 v7 v8 v9 v10 v11 v12 v19 v20 v21 v22 H',Drw H' h c→D.nx [v0,some (.ref h),v2,some (.str free),some (.ref A),v5,v6,v7,v8,v9,v10,v11,v12,some (.ref ml),some (.ref nl),some (.ref d),some (.str t),some (.str old),some (.str new),v19,v20,v21,v22] H') :
  ZjO K CP D [v0,some (.ref h),v2,some (.str free),some (.ref A),v5,v6,v7,v8,v9,v10,v11,v12,some (.ref ml),some (.ref nl),some (.ref d),some (.str t),some (.str old),some (.str new),v19,v20,v21,v22] H:=by
 unfold ZjO
 have sz:=Z3
 row_readAll gg
 refine⟨h,c,t,old,new,free,rfl,b.M.d,b.M.m.ok t b.x.t,b.x.okn _ b.x.o,b.x.on,b.x.fr,fun p v s own reason H1 s1 i1 R k1 D1=>?_⟩
 row_readAll gg
 refine ZlN s1 ?_
 row_readAll gg
 exact ZsF trivial (b.keep k1 D1) i1 R (fun _ _ _ _ _ _ _ _ _ _ _ _ H7 D7=>q _ _ _ _ _ _ _ _ _ _ _ _ H7 D7)
theorem ZsH(nf0:True)(b:B35 K CP H h c ml nl d A pf ms ns P t old new free){bad:Str}(hb:ZeM bad=false)(lb:bad.length ≤ 4000)(sb:PyData.strOk bad=true)
  (q:∀ v5 v6 v7 v8 v9 v10 v11 v12 v19 v20 v21 v22 H',Drw H' h c→D.nx [v0,some (.ref h),v2,some (.str free),some (.ref A),v5,v6,v7,v8,v9,v10,v11,v12,some (.ref ml),some (.ref nl),some (.ref d),some (.str t),some (.str old),some (.str new),v19,v20,v21,v22] H') :
  ZjP K CP D [v0,some (.ref h),v2,some (.str free),some (.ref A),some (.str bad),v6,v7,v8,v9,v10,v11,v12,some (.ref ml),some (.ref nl),some (.ref d),some (.str t),some (.str old),some (.str new),v19,v20,v21,v22] H:=by
 unfold ZjP
 have sz:=Z3
 row_readAll gg
 refine ZnA b.xp b.x.ok lb sb (.inr (.inl ⟨by rw[b.x.key]; exact b.x.t,hb,fun H6 k6=>?_⟩))
 row_readAll gg
 exact ZsG trivial (b.k0 k6) (fun _ _ _ _ _ _ _ _ _ _ _ _ H7 D7=>q _ _ _ _ _ _ _ _ _ _ _ _ H7 D7)
def ZsI:List Str:=["", "A", "abcdefghi", "a1", "a b"]
theorem ZoN:∀ x∈ZsI,ZeM x=false∧x.length ≤ 4000∧PyData.strOk x=true:=by decide +kernel
theorem ZsJ(nf0:True)(b:B35 K CP H h c ml nl d A pf ms ns P t old new free) 
  (q:∀ v5 v6 v7 v8 v9 v10 v11 v12 v19 v20 v21 v22 H',Drw H' h c→D.nx [v0,some (.ref h),v2,some (.str free),some (.ref A),v5,v6,v7,v8,v9,v10,v11,v12,some (.ref ml),some (.ref nl),some (.ref d),some (.str t),some (.str old),some (.str new),v19,v20,v21,v22] H') :
  ZjQ K CP D [v0,some (.ref h),v2,some (.str free),some (.ref A),v5,v6,v7,v8,v9,v10,v11,v12,some (.ref ml),some (.ref nl),some (.ref d),some (.str t),some (.str old),some (.str new),v19,v20,v21,v22] H:=by
 unfold ZjQ
 have sz:=Z3
 row_readAll gg
 refine Zbr (by row_readAll ln) fun p1 H1 f1 k1 g1=>?_
 row_readAll gg
 have b1:=b.k0 k1
 have n1:=b.M.d.ne1 f1
 refine Zf2 b1.M.d (by decide) (by decide) fun u H2 u0 u1 k2 D2=>?_
 have b2:=b1.keep k2 D2
 obtain⟨bad,hb,mb⟩:∃ bad,atI (ZsI.map V.str) u=some (.str bad)∧bad∈ZsI:=by
  have:u=0∨u=1∨u=2∨u=3∨u=4:=by omega
  rcases this with rfl | rfl | rfl | rfl | rfl
  ·exact⟨"",rfl,by decide +kernel⟩
  ·exact⟨"A",rfl,by decide +kernel⟩
  ·exact⟨"abcdefghi",rfl,by decide +kernel⟩
  ·exact⟨"a1",rfl,by decide +kernel⟩
  ·exact⟨"a b",rfl,by decide +kernel⟩
 refine Zaz (SqL.of (k2.obj _ _ (by simp[n1.1,n1.2]) g1)) hb ?_
 row_readAll gg
 obtain⟨h1,h2,h3⟩:=ZoN bad mb
 exact ZsH trivial b2 h1 h2 h3 (fun _ _ _ _ _ _ _ _ _ _ _ _ H7 D7=>q _ _ _ _ _ _ _ _ _ _ _ _ H7 D7)
theorem ZsK(nf0:True)(b:B35 K CP H h c ml nl d A pf ms ns P t old new free) 
  (q:∀ v5 v6 v7 v8 v9 v10 v11 v12 v19 v20 v21 v22 H',Drw H' h c→D.nx [v0,some (.ref h),v2,some (.str free),some (.ref A),v5,v6,v7,v8,v9,v10,v11,v12,some (.ref ml),some (.ref nl),some (.ref d),some (.str t),some (.str old),some (.str new),v19,v20,v21,v22] H') :
  ZjR K CP D [v0,some (.ref h),v2,some (.str free),some (.ref A),v5,v6,v7,v8,v9,v10,v11,v12,some (.ref ml),some (.ref nl),some (.ref d),some (.str t),some (.str old),some (.str new),v19,v20,v21,v22] H:=by
 unfold ZjR
 have sz:=Z3
 row_readAll gg
 refine ZnA b.xp b.x.ok (by decide +kernel) (by decide +kernel) (.inl ⟨fun z=>?_,fun H6 k6=>?_⟩)
 ·rw[b.x.key]at z
  have:=ZeY (b.M.m.ok _ z)
  exact absurd this (by decide +kernel)
 ·row_readAll gg
  exact ZsJ trivial (b.k0 k6) (fun _ _ _ _ _ _ _ _ _ _ _ _ H7 D7=>q _ _ _ _ _ _ _ _ _ _ _ _ H7 D7)
theorem ZsL(nf0:True)(b:B35 K CP H h c ml nl d A pf ms ns P t old new free) 
  (q:∀ v5 v6 v7 v8 v9 v10 v11 v12 v19 v20 v21 v22 H',Drw H' h c→D.nx [v0,some (.ref h),v2,some (.str free),some (.ref A),v5,v6,v7,v8,v9,v10,v11,v12,some (.ref ml),some (.ref nl),some (.ref d),some (.str t),some (.str old),some (.str new),v19,v20,v21,v22] H') :
  ZjS K CP D [v0,some (.ref h),v2,some (.str free),some (.ref A),v5,v6,v7,v8,v9,v10,v11,v12,some (.ref ml),some (.ref nl),some (.ref d),some (.str t),some (.str old),some (.str new),v19,v20,v21,v22] H:=by
 unfold ZjS
 have sz:=Z3
 row_readAll gg
 refine ZnA b.xp b.x.ok (by have:=b.x.on.2.1; omega) b.x.on.ok (.inr (.inr (.inr ⟨by rw[b.x.key]; exact b.x.t,b.x.okn _ b.x.o,b.x.on,fun _=>b.x.can0,fun H6 k6=>?_⟩)))
 row_readAll gg
 exact ZsK trivial (b.k0 k6) (fun _ _ _ _ _ _ _ _ _ _ _ _ H7 D7=>q _ _ _ _ _ _ _ _ _ _ _ _ H7 D7)
theorem ZsM(M:MN H h c ml nl ms ns)(dp:Zbc K H d P)(x:T35 P ms ns t old new free)(nd:d∉[h,c])
  (q:∀ v4 v5 v6 v7 v8 v9 v10 v11 v12 v19 v20 v21 v22 H',Drw H' h c→D.nx [v0,some (.ref h),v2,some (.str free),v4,v5,v6,v7,v8,v9,v10,v11,v12,some (.ref ml),some (.ref nl),some (.ref d),some (.str t),some (.str old),some (.str new),v19,v20,v21,v22] H'):∀ v4,
  ZjT K CP D [v0,some (.ref h),v2,some (.str free),v4,v5,v6,v7,v8,v9,v10,v11,v12,some (.ref ml),some (.ref nl),some (.ref d),some (.str t),some (.str old),some (.str new),v19,v20,v21,v22] H:=by
 intro v4
 unfold ZjT
 row_readAll gg
 obtain⟨m3,g3,r3⟩:=id dp
 refine⟨d,m3,rfl,.inl g3,fun pd H4 f4 k4 g4=>?_⟩
 dsimp only
 refine ZiZ ⟨m3,g4,r3.mono fun v b i=>i.mono k4⟩ x.ok fun A dA nlA eA H5 x5 fr5 k5=>?_
 have M4:=M.k0 k4
 have nA:∀ b∈[A,dA,nlA,eA],b∉[h,c]:=fun b hb=>by
  have:=M4.d.ne1 (fr5 b hb)
  simp[this.1,this.2]
 generalize [A,dA,nlA,eA]=pf at x5 fr5 nA
 row_readAll gg
 exact ZsL trivial ⟨M4.k0 k5,(dp.k0 k4).k0 k5,x,x5,nA,nd⟩ (fun _ _ _ _ _ _ _ _ _ _ _ _ H7 D7=>q _ _ _ _ _ _ _ _ _ _ _ _ _ H7 D7)
theorem ZsN{P0:Prg}{o:Str}(M:MN H h c ml nl ms ns)(dp:Zbc K H d (Zhb [old,new] o P0))(rd:ZdJ ms ns P0)(sm:∀ x∈P0,cntL x.2 ≤ 58∧x.2.length ≤ 7)(oo:okN o)(no:o∉[old,new])(ht:t∈ms)(ho:old∈ns)(hn:new∉ns)(on:okN new)(nd:d∉[h,c])
  (q:∀ v3 v4 v5 v6 v7 v8 v9 v10 v11 v12 v19 v20 v21 v22 H',Drw H' h c→D.nx [v0,some (.ref h),v2,v3,v4,v5,v6,v7,v8,v9,v10,v11,v12,some (.ref ml),some (.ref nl),some (.ref d),some (.str t),some (.str old),some (.str new),v19,v20,v21,v22] H'):∀ v3 v4,
  ZjU K CP D [v0,some (.ref h),v2,v3,v4,v5,v6,v7,v8,v9,v10,v11,v12,some (.ref ml),some (.ref nl),some (.ref d),some (.str t),some (.str old),some (.str new),v19,v20,v21,v22] H:=by
 intro v3 v4
 unfold ZjU
 have sz:=Z3
 row_readAll go
 refine Zbr (by row_readAll ln) fun p6 H6 f6 k6 g6=>?_
 have g6':H6 p6=some (.lst (zs3.map V.str)):=g6
 row_readAll go
 refine .inl ⟨⟨_,SqL.of g6'⟩,?_⟩
 refine ZfL (ks:=zs3) (fun z=>!decide (z∈[old,new])) (Wk.lst (SqL.of g6') Ya) (by rw[sz]; decide) (by simp) (fun z H7 R hz k r=>?_) fun p7 H7 f7 k7 g7=>?_
 ·row_readAll go
  refine Zj (by row_readAll ln) fun c8 H8 f8 k8 s8=>?_
  refine Znh (l:=[old,new]) s8 ?_
  row_readAll go
  exact r H8 k8
 ·obtain⟨free,rest,eu,hu,nu⟩:=Zia (l:=zs3) Znz (fun y hy=>hy) (ns:=[old,new]) (by show 2 < 3; decide)
  rw[eu]at g7
  row_readAll go
  refine Zaz (SqL.of g7) (Zsu (v:=V.str free) (xs:=rest.map V.str)) ?_
  row_readAll go
  have lm:=rd.lm
  have lP:P0.length=ms.length:=by rw[← rd.keys,Yb]
  have x:T35 (Zhb [old,new] o P0) ms ns t old new free:=by
   refine⟨rd.ok.pln oo,by rw[ZgT]; exact rd.keys,by unfold Zhb; rw[Yb]; omega,fun y hy=>?_,ZmY no rd.nmin,ht,ho,hn,rd.okn,on,Zny free hu,nu⟩
   obtain⟨z,hz,rfl⟩:=Yq.mp hy
   have:=sm z hz
   have:=(rd.blk z hz).dep
   refine⟨?_,?_,?_⟩
   ·show cntL (plnL _ _ z.2) ≤ 58
    rw[plnL_cnt]; omega
   ·show depL (plnL _ _ z.2) ≤ 2
    rw[plnL_dep]; omega
   ·show(plnL _ _ z.2).length ≤ 7
    rw[Zh_,Yb]; omega
  exact ZsM ((M.k0 k6).k0 k7) ((dp.k0 k6).k0 k7) x nd (fun _ _ _ _ _ _ _ _ _ _ _ _ _ H7 D7=>q _ _ _ _ _ _ _ _ _ _ _ _ _ _ H7 D7) _
end
theorem Zm_{K:YC}{CP:YF}(vs:List V)(H:Hp)(Q:VK)(E:XK)(h:Zkr K vs H Q E):Zm8 K CP { nx:=fun _ H'=>Q .non H',rt:=Q } (start Zsw vs) H:=by
 obtain⟨a,ns,rfl,hs,hl,q⟩:=h
 show Zm8 K CP _ [some (.ref a),none,none,none,none,none,none,none,none,none,none,none,none,none,none,none,none,none,none,none,none,none,none] H
 unfold Zm8
 row_readAll go
 refine⟨a,ns,45,rfl,hs,hl,by decide,by decide,fun h c0 H1 fh fc k1 D1=>?_⟩
 row_readAll go
 refine⟨by decide,by decide,?_⟩
 obtain⟨P0',hP0⟩:∃ P0':Nat→L2.St→Hp→Prop,∀ i σ' H',P0' i σ' H'↔(∃ o2 o3 o4 o5 o6 o7 o8 o9 o10 o11 o12 o13 o14 o15 o16 o17 o18 o19 o20 o21 o22,σ'=[some (.ref a),some (.ref h),o2,o3,o4,o5,o6,o7,o8,o9,o10,o11,o12,o13,o14,o15,o16,o17,o18,o19,o20,o21,o22]∧Drw H' h c0):=⟨_,fun _ _ _=>Iff.rfl⟩
 refine Znj P0' ((hP0 _ _ _).mpr ⟨_,_,_,_,_,_,_,_,_,_,_,_,_,_,_,_,_,_,_,_,_,rfl,D1⟩) ?_ ?_
 ·intro i σ' H2 hi hp
  obtain⟨o2,o3,o4,o5,o6,o7,o8,o9,o10,o11,o12,o13,o14,o15,o16,o17,o18,o19,o20,o21,o22,rfl,D2⟩:=(hP0 _ _ _).mp hp
  clear hp
  row_readAll gg
  unfold Zl4
  row_readAll gg
  refine⟨h,c0,rfl,D2,fun p ml nl d ms ns P t old new H3 s3 M3 dp3 rd fml fnl fd nmn ndm ndn k3=>?_⟩
  row_readAll gg
  refine ZqE s3 ?_
  row_readAll gg
  obtain⟨P0,o,dr,few,oo,no,rfl⟩:=rd.ex
  have nh:=D2.ne1 fd
  exact ZsN M3 dp3 dr few oo no rd.t rd.old rd.nnew rd.okn (by simp[nh.1,nh.2]) (fun _ _ _ _ _ _ _ _ _ _ _ _ _ _ H6 D6=>(hP0 _ _ _).mpr ⟨_,_,_,_,_,_,_,_,_,_,_,_,_,_,_,_,_,_,_,_,_,rfl,D6⟩) _ _
 ·intro σ' H2 hp
  obtain⟨o2,o3,o4,o5,o6,o7,o8,o9,o10,o11,o12,o13,o14,o15,o16,o17,o18,o19,o20,o21,o22,rfl,D2⟩:=(hP0 _ _ _).mp hp
  row_readAll go
  exact q H2
end M
namespace M
open PySem PySem.Spec PyProof.Rows L2 L2H SlX GenW
theorem ZsO{k:Nat}{A:Around}(hr:Room k A):A.units + 80 < cLine:=by have:=hr.un; omega
def noE:Expr:=.Name "x" ⟨0,0,0,0⟩
def ZoO(s:YK):ZcF:=match Y2 s with
 | [.For tg1 it1 [.For tg2 it2 [.Expr (.Yield (some ye) yp) p3] _ p2] _ p1]=>⟨tg1,it1,tg2,it2,ye,yp,p1,p2,p3⟩
 | _=>⟨noE,noE,noE,noE,noE,⟨0,0,0,0⟩,⟨0,0,0,0⟩,⟨0,0,0,0⟩,⟨0,0,0,0⟩⟩
theorem Zl6:Y2 Ze=(ZoO Ze).b0:=by rfl
theorem Zif:Zq_ ["self", "name", "path", "statement"] ["self"] (YW Ze):=by
 have all:(YW Ze).names.all (fun y=>decide (y.2≠.free) && decide (y.2≠.cell))=true:=by decide +kernel
 have al:∀ y∈(YW Ze).names,y.2≠.free∧y.2≠.cell:=fun y hy=>by
  have:=List.all_eq_true.mp all y hy
  simpa using this
 refine⟨⟨rfl,rfl,rfl,by decide +kernel,rfl,by decide +kernel,fun y hy=>(al y hy).1⟩,fun x=>?_,fun n=>by rfl⟩
 have key:∀ k,(YW Ze).names.lookup x=some k→k≠.free∧k≠.cell:=fun k h=>by
  obtain⟨l1,l2,e,_⟩:=List.lookup_eq_some_iff.mp h
  have:=al (x,k) (by rw[e]; simp)
  exact this
 exact⟨fun h=>(key _ h).2 rfl,fun h=>(key _ h).1 rfl⟩
section
variable {P:YG} {w:YH} {K:YC} {mg:Str→Option YI} {base:Heap}
theorem ZqJ(c_si:C8.Cal P w K mg base 11 "statements_in" (Zq K 10) []) {f:YF} {cdv:YI} {A:Around} {outer:List Env} {s:YJ} {H:Hp} {qual:Str}
  (hr:Room 12 (A.deeper (envOfC qual (YW Ze) s.heap.objs.size f cdv))):ZmJ (Znw P w K mg base ["self", "name", "path", "statement"] qual (YW Ze) f cdv A outer s H) (ZoO Ze) where
 i1:=fun s' H'=>pi_list (SlX.pe_sl (pv 0))
 g1:=fun s' H'=>gN 1 Zif.g.nd
 i2:=fun s' H'=>pi_list (C8.pe_c c_si hr (by omega) rfl (YT (ZfU hr.units (SlX.pe_sl (pv 0)) (pv 1) (fun _ _=>rfl)) (YT (Za YX) YX)))
 g2:=fun s' H'=>pg_tup rfl (pgs_cons (gN 2 Zif.g.nd) (pgs_cons (gN 3 Zif.g.nd) pgs_nil))
 ye:=fun s' H'=>Za (YT (pv 1) (YT (pv 2) (YT (pv 3) YX)))
 f1:=fun x=>by rfl
 f2:=fun x=>by rfl
 co:=rfl
 ia:=rfl
theorem ZqK{C p1 p2 f:YF}{fd:YE}(T:Zjt K C p1 p2)(hm:Meth K C "each_statement" f) (F:FunD K "each_statement" "Program.each_statement" (Y3 Ze) (Y2 Ze) (YW Ze) [] [] f fd) (hb:Binds K fd ["self"] [])
  (c_si:C8.Cal P w K mg base 11 "statements_in" (Zq K 10) []):ZmT P w K mg base 12 C:=by
 rw[Zl6]at F
 exact⟨p1,p2,f,fd,_,_,_,ZoO Ze,T,hm,F,Zif,hb,fun cdv A outer s H hr=>ZqJ c_si hr⟩
theorem Zig:Xc ["value"] ["value"] (YW ZaA):=⟨rfl,rfl,rfl,by decide +kernel,rfl,by decide +kernel,by decide +kernel⟩
theorem Zih{f:YF}{fd:YE}(F:FunD K "is_integer" "is_integer" (Y3 ZaA) (Y2 ZaA) (YW ZaA) [] [] f fd) (B:Blt mg)  : Xn P w K mg base CX0 (0 + 1) f fd ["value"] (Zo K):=by
 refine F.ok Zig (fun vs H Q E h=>by obtain⟨_,_,rfl,_⟩:=h; rfl) (fun cdv A outer s H vs Q E hr h=>⟨Zcx K ,PSs.nox (?_),Zgq vs H Q E h⟩)
 exact(YZ (Y9 (pe_and (Xr call_isi rfl B.isinstance Zbu (YT (pv 0) (YT (pe_bltn rfl B.int Zfb rfl) YX))) (pe_one (pe_not (Xr call_isi rfl B.isinstance Zbu (YT (pv 0) (YT (pe_bltn rfl B.bool ZnF rfl) YX))))))))
theorem ZfM:Xc ["text", "sign"] ["text"] (YW ZbT):=⟨rfl,rfl,rfl,by decide +kernel,rfl,by decide +kernel,by decide +kernel⟩
theorem ZkV{f:YF}{fd:YE}(F:FunD K "is_name" "is_name" (Y3 ZbT) (Y2 ZbT) (YW ZbT) [] [] f fd) (B:Blt mg) (b8:GS mg "LETTERS" "abcdefghijklmnopqrstuvwxyz") (b3:GI mg "MAX_LETTERS" 8):Xn P w K mg base CX0 (0 + 1) f fd ["text"] (ZO K):=by
 refine F.ok ZfM (fun vs H Q E h=>by obtain⟨_,rfl,_⟩:=h; rfl) (fun cdv A outer s H vs Q E hr h=>⟨Zfo K ,PSs.nox (?_),ZiN vs H Q E h⟩)
 exact(YZ (Y9 (pe_and (pe_chain op_le op_le Y4 (Xr Zcj rfl B.len Zci (YT (pv 0) YX)) (C8.pe_gc rfl b3)) (pe_one (pe_cmpR (Zab hr.units) (pe_lc (own:=[("sign",1)]) (g:=(Y6 1)) (tt:=(Xe (tOp (ZbD K) (YU 1) (tC (.str "abcdefghijklmnopqrstuvwxyz"))))) rfl ZfM.nd (pi_str (pv 0)) (blkOk_by (N:=["text", "sign"]) (sc:=YW ZbT) (by decide +kernel)) (fun _ _ _ _ _=>(gN 1 ZfM.nd)) (fun _ _ _ _ _=>(pts_one (Y8 Zdz (pv 1) (C8.pe_gc rfl b8) rfl))) (fun _ _ _ _ _=>(pv 1))) (ZI YX) (Xd _))))))
theorem Zi2:Xc ["statement"] ["statement"] (YW Zbj):=⟨rfl,rfl,rfl,by decide +kernel,rfl,by decide +kernel,by decide +kernel⟩
theorem Zi3{f:YF}{fd:YE}(F:FunD K "blocks_of" "blocks_of" (Y3 Zbj) (Y2 Zbj) (YW Zbj) [] [] f fd) (B:Blt mg)  : Xn P w K mg base CX0 (0 + 1) f fd ["statement"] (ZbX K):=by
 refine F.ok Zi2 (fun vs H Q E h=>by obtain⟨_,_,rfl,_⟩:=h; rfl) (fun cdv A outer s H vs Q E hr h=>⟨Zc4 K ,PSs.nox (?_),Zg8 vs H Q E h⟩)
 exact(YY (ps_if (Y8 (Zab hr.units) (Xg Y7 (pv 0) Y4 (fun _ _=>rfl)) Y5 (Xd _)) (YZ (Y9 (Za (YT (Xg Y7 (pv 0) Y4 (fun _ _=>rfl)) YX)))) Y0)
 (YY (ps_if (Y8 Zgo (Xg Y7 (pv 0) Y4 (fun _ _=>rfl)) (Za (YT Y5 (YT Y5 YX))) rfl) (YZ (Y9 (Za (YT (Xg Y7 (pv 0) Y4 (fun _ _=>rfl)) (YT (Xg Y7 (pv 0) Y4 (fun _ _=>rfl)) YX))))) Y0)
 (YZ (Y9 (Za YX)))))
theorem ZgY:Xc ["statement", "module", "name", "wanted", "expr", "block"] ["statement"] (YW ZbE):=⟨rfl,rfl,rfl,by decide +kernel,rfl,by decide +kernel,by decide +kernel⟩
theorem ZjV{f:YF}{fd:YE}(F:FunD K "names_of" "names_of" (Y3 ZbE) (Y2 ZbE) (YW ZbE) [] [] f fd) (B:Blt mg)  : Xn P w K mg base CX0 (0 + 1) f fd ["statement"] (Zan K):=by
 refine F.ok ZgY (fun vs H Q E h=>by obtain⟨_,_,rfl,_⟩:=h; rfl) (fun cdv A outer s H vs Q E hr h=>⟨Zd9 K ,PSs.nox (?_),ZhT vs H Q E h⟩)
 exact(YY (ZhB rfl ZgY.nd (pv 0) (Z4 (Zaw (cN 1 (cN 2 Zaj))) (YZ (Y9 (Za (YT (pv 1) (YT (pv 2) YX))))) (Z4 (Zaw (cN 1 (cN 3 (cN 2 Zaj)))) (YZ (Y9 (Za (YT (pv 1) (YT (pv 3) (YT (pv 2) YX)))))) (Z4 (Zaw (cN 2 (cN 4 Zaj))) (YZ (Y9 (Za (YT (pv 2) YX)))) (Z4 (Zaw (cN 2 (cN 5 Zaj))) (YZ (Y9 (Za (YT (pv 2) YX)))) (Z4 (Zaw (cN 2 Zaj)) (YZ (Y9 (Za (YT (pv 2) YX)))) (Z4 (Zaw (cN 1 Zaj)) (YZ (Y9 (Za (YT (pv 1) YX)))) Zjb)))))))
 (YZ (Y9 (Za YX))))
theorem ZcX:Xc ["statement", "name", "expr", "block", "other"] ["statement"] (YW ZW):=⟨rfl,rfl,rfl,by decide +kernel,rfl,by decide +kernel,by decide +kernel⟩
theorem ZfN{f:YF}{fd:YE}(F:FunD K "expressions_of" "expressions_of" (Y3 ZW) (Y2 ZW) (YW ZW) [] [] f fd) (B:Blt mg)  : Xn P w K mg base CX0 (0 + 1) f fd ["statement"] (ZP K):=by
 refine F.ok ZcX (fun vs H Q E h=>by obtain⟨_,_,rfl,_⟩:=h; rfl) (fun cdv A outer s H vs Q E hr h=>⟨Zbe K ,PSs.nox (?_),ZeV vs H Q E h⟩)
 exact(YY (ZhB rfl ZcX.nd (pv 0) (Z4 (Zaw (cN 1 (cN 2 Zaj))) (YZ (Y9 (Za (YT (pv 2) YX)))) (Z4 (Zaw (cN 2 (cN 3 (cN 4 Zaj)))) (YZ (Y9 (Za (YT (pv 2) YX)))) (Z4 (Zaw (cN 2 Zaj)) (YZ (Y9 (Za (YT (pv 2) YX)))) (Z4 (Zaw (cN 2 Zaj)) (YZ (Y9 (Za (YT (pv 2) YX)))) Zjb)))))
 (YZ (Y9 (Za YX))))
theorem ZjW:Xc ["path"] ["path"] (YW ZbF):=⟨rfl,rfl,rfl,by decide +kernel,rfl,by decide +kernel,by decide +kernel⟩
theorem ZjX{f:YF}{fd:YE}(F:FunD K "depth_of" "depth_of" (Y3 ZbF) (Y2 ZbF) (YW ZbF) [] [] f fd) (B:Blt mg)  : Xn P w K mg base CX0 (0 + 1) f fd ["path"] (Zcp K):=by
 refine F.ok ZjW (fun vs H Q E h=>by obtain⟨_,_,rfl,_⟩:=h; rfl) (fun cdv A outer s H vs Q E hr h=>⟨Zd_ K ,PSs.nox (?_),ZhU vs H Q E h⟩)
 exact(YZ (Y9 (pe_op op_fdivW (Xr Zcj rfl B.len Zci (YT (pv 0) YX)) Y4)))
theorem Zdv:Xc ["expr", "operators"] ["expr", "operators"] (YW Zu):=⟨rfl,rfl,rfl,by decide +kernel,rfl,by decide +kernel,by decide +kernel⟩
theorem Zdw{n:Nat}{f:YF}{fd:YE}(F:FunD K "is_valid_expression" "is_valid_expression" (Y3 Zu) (Y2 Zu) (YW Zu) [] [] f fd) (B:Blt mg) (b3:C8.Cal P w K mg base (n + 2) "is_valid_expression" (Zg K n) []) (bc:C8.Cal P w K mg base 1 "is_name" (ZO K) []) (bd:C8.Cal P w K mg base 1 "is_integer" (Zo K) []) (b9:GI mg "MAX_OPERATORS" 3) (b8:GI mg "TOO_LARGE" 1000000000000000000000000000000000000000000000000000000000000):Xn P w K mg base CX0 ((n + 2) + 1) f fd ["expr", "operators"] (Zg K (n + 1)):=by
 refine F.ok Zdv (fun vs H Q E h=>by obtain⟨_,_,_,rfl,_⟩:=h; rfl) (fun cdv A outer s H vs Q E hr h=>⟨ZG K (Zg K n),PSs.nox (?_),ZcN vs H Q E h⟩)
 exact(YY (ps_if (pt_val (C8.pe_c bd hr (by omega) rfl (YT (pv 0) YX))) (YZ (Y9 (pe_chain op_lt op_lt (pe_un un_neg (C8.pe_gc rfl b8)) (pv 0) (C8.pe_gc rfl b8)))) Y0)
 (YY (ps_if (Y8 (Zab hr.units) (Xg Y7 (pv 0) Y4 (fun _ _=>rfl)) Y5 (Xd _)) (YZ (Y9 (C8.pe_c bc hr (by omega) rfl (YT (Xg Y7 (pv 0) Y4 (fun _ _=>rfl)) YX)))) Y0)
 (YY (ps_if (Y8 (Zab hr.units) (Xg Y7 (pv 0) Y4 (fun _ _=>rfl)) Y5 (Xd _)) (YZ (Y9 (pe_and (C8.pe_c bc hr (by omega) rfl (YT (Xg Y7 (pv 0) Y4 (fun _ _=>rfl)) YX)) (pe_one (C8.pe_c bc hr (by omega) rfl (YT (Xg Y7 (pv 0) Y4 (fun _ _=>rfl)) YX)))))) Y0)
 (YY (ps_if (Y8 (Zab hr.units) (pv 1) (C8.pe_gc rfl b9) (Xd _)) (YZ (Y9 pe_bl)) Y0)
 (YZ (Y9 (pe_and (C8.pe_c b3 hr (by omega) rfl (YT (Xg Y7 (pv 0) Y4 (fun _ _=>rfl)) (YT (pe_op Zae (pv 1) Y4) YX))) (pe_one (C8.pe_c b3 hr (by omega) rfl (YT (Xg Y7 (pv 0) Y4 (fun _ _=>rfl)) (YT (pe_op Zae (pv 1) Y4) YX)))))))))))
theorem ZV:Xc ["path", "statement", "expr", "name"] ["path", "statement"] (YW Zp):=⟨rfl,rfl,rfl,by decide +kernel,rfl,by decide +kernel,by decide +kernel⟩
theorem ZdX{f:YF}{fd:YE}(F:FunD K "is_valid_statement" "is_valid_statement" (Y3 Zp) (Y2 Zp) (YW Zp) [] [] f fd) (B:Blt mg) (b8:C8.Cal P w K mg base 1 "expressions_of" (ZP K) []) (b3:C8.Cal P w K mg base 7 "is_valid_expression" (Zg K 5) []) (bd:C8.Cal P w K mg base 1 "names_of" (Zan K) []) (bf:C8.Cal P w K mg base 1 "is_name" (ZO K) []) (bc:C8.Cal P w K mg base 1 "depth_of" (Zcp K) []) (b9:GI mg "MAX_DEPTH" 3):Xn P w K mg base CX0 (8 + 1) f fd ["path", "statement"] (ZT K):=by
 refine F.ok ZV (fun vs H Q E h=>by obtain⟨_,_,_,_,rfl,_⟩:=h; rfl) (fun cdv A outer s H vs Q E hr h=>⟨Zaf K ,PSs.nox (?_),Zc6 vs H Q E h⟩)
 exact(YY (ps_if (PW.pt (pw_or (Y8 op_gt (C8.pe_c bc hr (by omega) rfl (YT (pv 0) YX)) (C8.pe_gc rfl b9) (Xd _)) (pw_or1 (Y8 (Zik hr.units) (pe_lc (own:=[("name",3)]) (g:=(Y6 3)) (tt:=(tNot (tB (Xo (ZO K) [] E0 (YV (YU 3) Y1))))) rfl ZV.nd (ZbR (C8.pe_c bd hr (by omega) rfl (YT (pv 1) YX))) (blkOk_by (N:=["path", "statement", "expr", "name"]) (sc:=YW Zp) (by decide +kernel)) (fun _ _ _ _ _=>(gN 3 ZV.nd)) (fun _ _ _ _ _=>(pts_one (pt_not (pt_val (C8.pe_c bf hr (by omega) rfl (YT (pv 3) YX)))))) (fun _ _ _ _ _=>(pv 3))) (ZI YX) (Xd _))))) (YZ (Y9 pe_bl)) Y0)
 (YZ (Y9 (pe_cmpR (Zab hr.units) (pe_lc (own:=[("expr",2)]) (g:=(Y6 2)) (tt:=(tNot (tB (Xo (Zg K 5) [] E0 (YV (YU 2) (YV (tC (.int 0)) Y1)))))) rfl ZV.nd (ZbR (C8.pe_c b8 hr (by omega) rfl (YT (pv 1) YX))) (blkOk_by (N:=["path", "statement", "expr", "name"]) (sc:=YW Zp) (by decide +kernel)) (fun _ _ _ _ _=>(gN 2 ZV.nd)) (fun _ _ _ _ _=>(pts_one (pt_not (pt_val (C8.pe_c b3 hr (by omega) rfl (YT (pv 2) (YT Y4 YX))))))) (fun _ _ _ _ _=>(pv 2))) (ZI YX) (Xd _)))))
theorem Z2:Xc ["block", "base", "found", "index", "statement", "path", "number", "inner"] ["block", "base"] (YW Z8):=⟨rfl,rfl,rfl,by decide +kernel,rfl,by decide +kernel,by decide +kernel⟩
theorem Zga{n:Nat}{f:YF}{fd:YE}(F:FunD K "statements_in" "statements_in" (Y3 Z8) (Y2 Z8) (YW Z8) [] [] f fd) (B:Blt mg) (b8:C8.Cal P w K mg base 1 "blocks_of" (ZbX K) []) (b3:C8.Cal P w K mg base (n + 1) "statements_in" (Zq K n) []):Xn P w K mg base CX0 ((n + 1) + 1) f fd ["block", "base"] (Zq K (n + 1)):=by
 refine F.ok Z2 (fun vs H Q E h=>by obtain⟨_,_,_,_,rfl,_⟩:=h; rfl) (fun cdv A outer s H vs Q E hr h=>⟨Zbw K (Zq K n),PSs.nox (?_),Zfp vs H Q E h⟩)
 exact(YY (sN 2 Z2.nd (ZI YX))
 (YY (ps_for PassesOwn.never rfl (ZhG rfl B.enumerate (YT (pv 0) YX)) (pg_tup rfl (pgs_cons (gN 3 Z2.nd) (pgs_cons (gN 4 Z2.nd) pgs_nil))) (YY (sN 5 Z2.nd (pe_op Zae (pv 1) (Za (YT (pv 3) YX))))
 (YY (Xf (pe_bm PySem.F.plainAttrs_list PySem.F.slot_list_append PySem.F.type_list_append mt_append (pv 2) (YT (Za (YT (pv 5) (YT (pv 4) YX))) YX)))
 (YZ (ps_for PassesOwn.never rfl (ZhG rfl B.enumerate (YT (C8.pe_c b8 hr (by omega) rfl (YT (pv 4) YX)) YX)) (pg_tup rfl (pgs_cons (gN 6 Z2.nd) (pgs_cons (gN 7 Z2.nd) pgs_nil))) (YZ (Xf (pe_bm PySem.F.plainAttrs_list PySem.F.slot_list_extend PySem.F.type_list_extend mt_extend (pv 2) (YT (C8.pe_c b3 hr (by omega) rfl (YT (pv 7) (YT (pe_op Zae (pv 5) (Za (YT (pv 6) YX))) YX))) YX)))))))))
 (YZ (Y9 (pv 2)))))
theorem ZbP:Xc ["index", "name", "block", "statements", "path", "statement"] ["index", "name", "block"] (YW Zak):=⟨rfl,rfl,rfl,by decide +kernel,rfl,by decide +kernel,by decide +kernel⟩
theorem Zhe{f:YF}{fd:YE}(F:FunD K "first_fault" "first_fault" (Y3 Zak) (Y2 Zak) (YW Zak) [] [] f fd) (B:Blt mg) (b3:C8.Cal P w K mg base 9 "is_valid_statement" (ZT K) []) (bd:C8.Cal P w K mg base 1 "is_name" (ZO K) []) (b9:C8.Cal P w K mg base 11 "statements_in" (Zq K 10) []) (b8:GI mg "MAX_STATEMENTS" 60) (bc:GI mg "MAX_MODULES" 8):Xn P w K mg base CX0 (12 + 1) f fd ["index", "name", "block"] (Zbb K):=by
 refine F.ok ZbP (fun vs H Q E h=>by obtain⟨_,_,_,_,rfl,_⟩:=h; rfl) (fun cdv A outer s H vs Q E hr h=>⟨Zca K ,PSs.nox (?_),Zf6 vs H Q E h⟩)
 exact(YY (sN 3 ZbP.nd (C8.pe_c b9 hr (by omega) rfl (YT (pv 2) (YT (Za YX) YX))))
 (YY (ps_if (PW.pt (pw_or (Y8 op_ge (pv 0) (C8.pe_gc rfl bc) (Xd _)) (pw_or (pt_not (pt_val (C8.pe_c bd hr (by omega) rfl (YT (pv 1) YX)))) (pw_or1 (Y8 op_gt (Xr Zcj rfl B.len Zci (YT (pv 3) YX)) (C8.pe_gc rfl b8) (Xd _)))))) (YZ (Y9 (Za YX))) Y0)
 (YY (ps_for PassesOwn.never rfl (ZbR (pv 3)) (pg_tup rfl (pgs_cons (gN 4 ZbP.nd) (pgs_cons (gN 5 ZbP.nd) pgs_nil))) (YZ (ps_if (pt_not (pt_val (C8.pe_c b3 hr (by omega) rfl (YT (pv 4) (YT (pv 5) YX))))) (YZ (Y9 (pv 4))) Y0)))
 (YZ (Y9 pe_non)))))
theorem ZR:Xc ["self", "modules", "index", "name", "path"] ["self", "modules"] (YW ZD):=⟨rfl,rfl,rfl,by decide +kernel,rfl,by decide +kernel,by decide +kernel⟩
theorem Ze6{C p1 p2:YF}(T:Zjt K C p1 p2){f:YF}{fd:YE}(F:FunD K "__init__" "Program.__init__" (Y3 ZD) (Y2 ZD) (YW ZD) [] [] f fd) (B:Blt mg) (b3:C8.Cal P w K mg base 13 "first_fault" (Zbb K) []):Xn P w K mg base CX0 (13 + 1) f fd ["self", "modules"] (Zi K C):=by
 refine F.ok ZR (fun vs H Q E h=>by obtain⟨_,_,_,_,rfl,_⟩:=h; rfl) (fun cdv A outer s H vs Q E hr h=>⟨Zax K ,PSs.nox (?_),ZdK T vs H Q E h⟩)
 exact(YY (ps_for PassesOwn.never rfl (ZhG rfl B.enumerate (YT (Xr (ZhO rfl) rfl B.sorted ZgD (YT (pv 1) YX)) YX)) (pg_tup rfl (pgs_cons (gN 2 ZR.nd) (pgs_cons (gN 3 ZR.nd) pgs_nil))) (YY (sN 4 ZR.nd (C8.pe_c b3 hr (by omega) rfl (YT (pv 2) (YT (pv 3) (YT (ZfU hr.units (pv 1) (pv 3) (fun _ _=>rfl)) YX)))))
 (YZ (ps_if (Y8 op_notN1 (pv 4) pe_non (Xd _)) (YZ ps_never) Y0))))
 (YY (SlX.ps_sl (pv 0) (Xr (ZhO rfl) rfl B.sorted ZgD (YT (pv 1) YX)))
 (YZ (SlX.ps_sl (pv 0) (pe_dc (own:=[("name",3)]) (g:=(Y6 3)) (tt:=tYes) rfl ZR.nd (ZbR (Xr (ZhO rfl) rfl B.sorted ZgD (YT (pv 1) YX))) (blkOk_by (N:=["self", "modules", "index", "name", "path"]) (sc:=YW ZD) (by decide +kernel)) (fun _ _ _ _ _=>(gN 3 ZR.nd)) (fun _ _ _ _ _=>pts_nil) (fun _ _ _ _ _=>(pv 3)) (fun _ _ _ _ _=>(ZfU hr.units (pv 1) (pv 3) (fun _ _=>rfl))))))))
theorem Zdh:Xc ["self", "x"] ["self", "x"] (YW Zt):=⟨rfl,rfl,rfl,by decide +kernel,rfl,by decide +kernel,by decide +kernel⟩
theorem Zdi{C p1 p2:YF}(T:Zjt K C p1 p2){f:YF}{fd:YE}(F:FunD K "__contains__" "Program.__contains__" (Y3 Zt) (Y2 Zt) (YW Zt) [] [] f fd) (B:Blt mg)  : Xn P w K mg base CX0 (0 + 1) f fd ["self", "x"] (ZK K C):=by
 refine F.ok Zdh (fun vs H Q E h=>by obtain⟨_,_,_,_,rfl,_⟩:=h; rfl) (fun cdv A outer s H vs Q E hr h=>⟨Zaa K ,PSs.nox (?_),ZcE T vs H Q E h⟩)
 exact(YZ (Y9 (pe_cmp (Zlf hr.units (pv 1) (SlX.pe_sl (pv 0))))))
theorem Zdx:Xc ["self", "at"] ["self", "at"] (YW Zv):=⟨rfl,rfl,rfl,by decide +kernel,rfl,by decide +kernel,by decide +kernel⟩
theorem Zdy{C p1 p2:YF}(T:Zjt K C p1 p2){f:YF}{fd:YE}(F:FunD K "__getitem__" "Program.__getitem__" (Y3 Zv) (Y2 Zv) (YW Zv) [] [] f fd) (B:Blt mg)  : Xn P w K mg base CX0 (0 + 1) f fd ["self", "at"] (Zm K C):=by
 refine F.ok Zdx (fun vs H Q E h=>by obtain⟨_,_,_,_,_,rfl,_⟩:=h; rfl) (fun cdv A outer s H vs Q E hr h=>⟨Zac K ,PSs.nox (?_),ZcP T vs H Q E h⟩)
 exact(YY (ps_if (pt_cmp (Zmo hr.units (pv 1) (SlX.pe_sl (pv 0)))) (YZ ps_never) Y0)
 (YZ (Y9 (ZfU hr.units (SlX.pe_sl (pv 0)) (pv 1) (fun _ _=>rfl)))))
theorem ZeI:Xc ["self"] ["self"] (YW ZE):=⟨rfl,rfl,rfl,by decide +kernel,rfl,by decide +kernel,by decide +kernel⟩
theorem ZeJ{C p1 p2:YF}(T:Zjt K C p1 p2){f:YF}{fd:YE}(F:FunD K "all_names" "Program.all_names" (Y3 ZE) (Y2 ZE) (YW ZE) [] [] f fd) (B:Blt mg)  : Xn P w K mg base CX0 (2 + 1) f fd ["self"] (ZL K C):=by
 refine F.ok ZeI (fun vs H Q E h=>by obtain⟨_,_,_,rfl,_⟩:=h; rfl) (fun cdv A outer s H vs Q E hr h=>⟨Zaq K ,PSs.nox (?_),Zdu T vs H Q E h⟩)
 exact(YZ (Y9 (pe_callTy Zk1 rfl B.list Zk0 (YT (SlX.pe_sl (pv 0)) YX))))
theorem ZkW:Xc ["expr"] ["expr"] (YW Zcl):=⟨rfl,rfl,rfl,by decide +kernel,rfl,by decide +kernel,by decide +kernel⟩
theorem ZkX{n:Nat}{f:YF}{fd:YE}(F:FunD K "read_in" "read_in" (Y3 Zcl) (Y2 Zcl) (YW Zcl) [] [] f fd) (B:Blt mg) (b3:C8.Cal P w K mg base (n + 2) "read_in" (ZaO K n) []) (b8:C8.Cal P w K mg base 1 "is_integer" (Zo K) []):Xn P w K mg base CX0 ((n + 2) + 1) f fd ["expr"] (ZaO K (n + 1)):=by
 refine F.ok ZkW (fun vs H Q E h=>by obtain⟨_,_,rfl,_⟩:=h; rfl) (fun cdv A outer s H vs Q E hr h=>⟨Zfy K (ZaO K n),PSs.nox (?_),ZiU vs H Q E h⟩)
 exact(YY (ps_if (pt_val (C8.pe_c b8 hr (by omega) rfl (YT (pv 0) YX))) (YZ (Y9 (ZI YX))) Y0)
 (YZ (Y9 (pe_ifExp (Y8 Zgo (Xg Y7 (pv 0) Y4 (fun _ _=>rfl)) (Za (YT Y5 (YT Y5 YX))) rfl) (ZI (YT (pv 0) YX)) (pe_op Zae (C8.pe_c b3 hr (by omega) rfl (YT (Xg Y7 (pv 0) Y4 (fun _ _=>rfl)) YX)) (C8.pe_c b3 hr (by omega) rfl (YT (Xg Y7 (pv 0) Y4 (fun _ _=>rfl)) YX)))))))
theorem Zai:Xc ["module", "statement", "found", "expr", "part", "name"] ["module", "statement"] (YW ZaB):=⟨rfl,rfl,rfl,by decide +kernel,rfl,by decide +kernel,by decide +kernel⟩
theorem Zi4{f:YF}{fd:YE}(F:FunD K "places_of" "places_of" (Y3 ZaB) (Y2 ZaB) (YW ZaB) [] [] f fd) (B:Blt mg) (b8:C8.Cal P w K mg base 1 "names_of" (Zan K) []) (b3:C8.Cal P w K mg base 1 "expressions_of" (ZP K) []) (b9:C8.Cal P w K mg base 7 "read_in" (ZaO K 5) []):Xn P w K mg base CX0 (8 + 1) f fd ["module", "statement"] (Zb2 K):=by
 refine F.ok Zai (fun vs H Q E h=>by obtain⟨_,_,_,rfl,_⟩:=h; rfl) (fun cdv A outer s H vs Q E hr h=>⟨Zda K ,PSs.nox (?_),Zg9 vs H Q E h⟩)
 exact(YY (sN 2 Zai.nd (ZI YX))
 (YY (ps_for PassesOwn.never rfl (ZbR (C8.pe_c b3 hr (by omega) rfl (YT (pv 1) YX))) (gN 3 Zai.nd) (YZ (ps_for PassesOwn.never rfl (ZbR (C8.pe_c b9 hr (by omega) rfl (YT (pv 3) YX))) (gN 4 Zai.nd) (YY (Xf (pe_bm PySem.F.plainAttrs_list PySem.F.slot_list_append PySem.F.type_list_append mt_append (pv 2) (YT (Za (YT (pv 0) (YT (Xg Y7 (pv 4) Y4 (fun _ _=>rfl)) YX))) YX)))
 (YZ (ps_aug (i:=2) Zai.nd rfl (Or.inl rfl) (pe_lc (own:=[("name",5)]) (g:=(Y6 5)) (tt:=tYes) rfl Zai.nd (ZbR (pe_slice sl_tupA (pv 4) (po_some Y4) po_none)) (blkOk_by (N:=["module", "statement", "found", "expr", "part", "name"]) (sc:=YW ZaB) (by decide +kernel)) (fun _ _ _ _ _=>(gN 5 Zai.nd)) (fun _ _ _ _ _=>pts_nil) (fun _ _ _ _ _=>(Za (YT pe_non (YT (pv 5) YX))))) Zjd))))))
 (YY (ps_if (Y8 (Zab hr.units) (Xg Y7 (pv 1) Y4 (fun _ _=>rfl)) Y5 (Xd _)) (YZ (ps_aug (i:=2) Zai.nd rfl (Or.inl rfl) (ZI (YT (Za (YT (Xg Y7 (pv 1) Y4 (fun _ _=>rfl)) (YT (Xg Y7 (pv 1) Y4 (fun _ _=>rfl)) YX))) (YT (Za (YT (pv 0) (YT (Xg Y7 (pv 1) Y4 (fun _ _=>rfl)) YX))) YX))) Zjd)) (YZ (ps_if (Y8 Zgo (Xg Y7 (pv 1) Y4 (fun _ _=>rfl)) (Za (YT Y5 (YT Y5 (YT Y5 (YT Y5 YX))))) rfl) (YZ (Xf (pe_bm PySem.F.plainAttrs_list PySem.F.slot_list_append PySem.F.type_list_append mt_append (pv 2) (YT (Za (YT (pv 0) (YT (Xg Y7 (C8.pe_c b8 hr (by omega) rfl (YT (pv 1) YX)) (pe_un un_neg Y4) (fun _ _=>rfl)) YX))) YX)))) Y0)))
 (YZ (Y9 (pv 2))))))
theorem ZaP:Xc ["program", "target", "old", "new", "places", "module", "path", "statement"] ["program", "target", "old", "new"] (YW ZaC):=⟨rfl,rfl,rfl,by decide +kernel,rfl,by decide +kernel,by decide +kernel⟩
theorem Zii{CP:YF}{f:YF}{fd:YE}(F:FunD K "can_rename" "can_rename" (Y3 ZaC) (Y2 ZaC) (YW ZaC) [] [] f fd) (B:Blt mg) (b3:C8.Cal P w K mg base 9 "places_of" (Zb2 K) []) (b8:ZmT P w K mg base 12 CP):Xn P w K mg base CX0 (14 + 1) f fd ["program", "target", "old", "new"] (Zby K CP):=by
 refine F.ok ZaP (fun vs H Q E h=>by obtain⟨_,_,_,_,_,_,rfl,_⟩:=h; rfl) (fun cdv A outer s H vs Q E hr h=>⟨ZcA K CP,PSs.nox (?_),ZgQ vs H Q E h⟩)
 exact(YY (sN 4 ZaP.nd (ZI YX))
 (YY (Zoi (fun _ _ h=>h) hr.depth rfl (Zsq b8 hr (by omega) (fun _ _ h=>h) rfl (pv 0)) (pg_tup rfl (pgs_cons (gN 5 ZaP.nd) (pgs_cons (gN 6 ZaP.nd) (pgs_cons (gN 7 ZaP.nd) pgs_nil)))) (YY (ps_if (Y8 (Zab hr.units) (Xg Y7 (pv 7) Y4 (fun _ _=>rfl)) Y5 (Xd _)) (YZ (Y9 pe_bl)) Y0)
 (YZ (ps_aug (i:=4) ZaP.nd rfl (Or.inl rfl) (C8.pe_c b3 hr (by omega) rfl (YT (pv 5) (YT (pv 7) YX))) Zjd))))
 (YZ (Y9 (pe_and (pe_cmpR (Zjw (ZsO hr)) (Za (YT pe_non (YT (pv 2) YX))) (pv 4) rfl) (pe_and (pe_cmpR (Zjw (ZsO hr)) (Za (YT pe_non (YT (pv 3) YX))) (pv 4) rfl) (pe_one (pe_cmpR (Zjw (ZsO hr)) (Za (YT (pv 1) (YT (pv 3) YX))) (pv 4) rfl))))))))
theorem Ze7:Xc ["self", "target", "old", "new"] ["self", "target", "old", "new"] (YW ZJ):=⟨rfl,rfl,rfl,by decide +kernel,rfl,by decide +kernel,by decide +kernel⟩
theorem Ze8{CN:YF}(T:InsC K CN ZoX){f:YF}{fd:YE}(F:FunD K "__init__" "Renamer.__init__" (Y3 ZJ) (Y2 ZJ) (YW ZJ) [] [] f fd) (B:Blt mg)  : Xn P w K mg base CX0 (0 + 1) f fd ["self", "target", "old", "new"] (ZQ K CN):=by
 refine F.ok Ze7 (fun vs H Q E h=>by obtain⟨_,_,_,_,_,rfl,_⟩:=h; rfl) (fun cdv A outer s H vs Q E hr h=>⟨Zay K ,PSs.nox (?_),ZdW T vs H Q E h⟩)
 exact(YY (ps_fld (pv 0) (pv 1) rfl)
 (YY (ps_fld (pv 0) (pv 2) rfl)
 (YZ (ps_fld (pv 0) (pv 3) rfl))))
theorem ZfO:Xc ["self", "module", "name"] ["self", "module", "name"] (YW ZX):=⟨rfl,rfl,rfl,by decide +kernel,rfl,by decide +kernel,by decide +kernel⟩
theorem ZfP{CN:YF}(T:InsC K CN ZoX){f:YF}{fd:YE}(F:FunD K "called" "Renamer.called" (Y3 ZX) (Y2 ZX) (YW ZX) [] [] f fd) (B:Blt mg)  : Xn P w K mg base CX0 (0 + 1) f fd ["self", "module", "name"] (Zk K CN):=by
 refine F.ok ZfO (fun vs H Q E h=>by obtain⟨_,_,_,_,_,rfl,_⟩:=h; rfl) (fun cdv A outer s H vs Q E hr h=>⟨Zbg K ,PSs.nox (?_),Ze0 T vs H Q E h⟩)
 exact(YZ (Y9 (pe_ifExp (PW.pt (pw_and (Y8 (Zab hr.units) (pv 1) (pe_fld (pv 0) rfl) (Xd _)) (pw_and1 (Y8 (Zab hr.units) (pv 2) (pe_fld (pv 0) rfl) (Xd _))))) (pe_fld (pv 0) rfl) (pv 2))))
theorem ZdY:Xc ["self", "module", "expr"] ["self", "module", "expr"] (YW ZA):=⟨rfl,rfl,rfl,by decide +kernel,rfl,by decide +kernel,by decide +kernel⟩
theorem ZdZ{CN:YF}{n:Nat}(T:InsC K CN ZoX){f:YF}{fd:YE}(F:FunD K "expression" "Renamer.expression" (Y3 ZA) (Y2 ZA) (YW ZA) [] [] f fd) (B:Blt mg) (b3:C8.Met P w K mg base (n + 2) CN "expression" (Zh K CN n) []) (b9:C8.Met P w K mg base 1 CN "called" (Zk K CN) []) (b8:C8.Cal P w K mg base 1 "is_integer" (Zo K) []):Xn P w K mg base CX0 ((n + 2) + 1) f fd ["self", "module", "expr"] (Zh K CN (n + 1)):=by
 refine F.ok ZdY (fun vs H Q E h=>by obtain⟨_,_,_,_,_,_,rfl,_⟩:=h; rfl) (fun cdv A outer s H vs Q E hr h=>⟨ZB K CN (Zh K CN n),PSs.nox (?_),Zdb T vs H Q E h⟩)
 exact(YY (ps_if (pt_val (C8.pe_c b8 hr (by omega) rfl (YT (pv 2) YX))) (YZ (Y9 (pv 2))) Y0)
 (YY (ps_if (Y8 Zgo (Xg Y7 (pv 2) Y4 (fun _ _=>rfl)) (Za (YT Y5 (YT Y5 YX))) rfl) (YZ (Y9 (Za (YT (Xg Y7 (pv 2) Y4 (fun _ _=>rfl)) (YT (C8.pe_mt b9 hr (by omega) (pv 0) (YT (pv 1) (YT (Xg Y7 (pv 2) Y4 (fun _ _=>rfl)) YX))) (StX.pa_star (pe_slice sl_tupA (pv 2) (po_some Y4) po_none) YX)))))) Y0)
 (YZ (Y9 (Za (YT (Xg Y7 (pv 2) Y4 (fun _ _=>rfl)) (YT (C8.pe_mt b3 hr (by omega) (pv 0) (YT (pv 1) (YT (Xg Y7 (pv 2) Y4 (fun _ _=>rfl)) YX))) (YT (C8.pe_mt b3 hr (by omega) (pv 0) (YT (pv 1) (YT (Xg Y7 (pv 2) Y4 (fun _ _=>rfl)) YX))) YX))))))))
theorem Zb8:Xc ["self", "module", "row", "name", "expr", "other", "wanted", "inner", "kind", "handler", "word"] ["self", "module", "row"] (YW ZF):=⟨rfl,rfl,rfl,by decide +kernel,rfl,by decide +kernel,by decide +kernel⟩
theorem ZeK{CN:YF}{n:Nat}{f:YF}{fd:YE}(F:FunD K "statement" "Renamer.statement" (Y3 ZF) (Y2 ZF) (YW ZF) [] [] f fd) (B:Blt mg) (b8:C8.Met P w K mg base 7 CN "expression" (Zh K CN 5) []) (b3:C8.Met P w K mg base 1 CN "called" (Zk K CN) []) (b9:C8.Met P w K mg base (2 * n + 8) CN "rows" (Zy K CN n) []):Xn P w K mg base CX0 ((2 * n + 8) + 1) f fd ["self", "module", "row"] (ZC K CN (n + 1)):=by
 refine F.ok Zb8 (fun vs H Q E h=>by obtain⟨_,_,_,_,_,_,rfl,_⟩:=h; rfl) (fun cdv A outer s H vs Q E hr h=>⟨Zap K CN (Zy K CN n),PSs.nox (?_),Zdt vs H Q E h⟩)
 exact(YY (ZhB rfl Zb8.nd (pv 2) (Z4 (Zaw (cN 3 (cN 4 Zaj))) (YZ (Y9 (Za (YT Y5 (YT (C8.pe_mt b3 hr (by omega) (pv 0) (YT (pv 1) (YT (pv 3) YX))) (YT (C8.pe_mt b8 hr (by omega) (pv 0) (YT (pv 1) (YT (pv 4) YX))) YX)))))) (Z4 (Zaw (cN 3 Zaj)) (YZ (Y9 (Za (YT Y5 (YT (C8.pe_mt b3 hr (by omega) (pv 0) (YT (pv 1) (YT (pv 3) YX))) YX))))) (Z4 (Zaw (cN 5 (cN 3 Zaj))) (YZ (Y9 (Za (YT Y5 (YT (pv 5) (YT (C8.pe_mt b3 hr (by omega) (pv 0) (YT (pv 1) (YT (pv 3) YX))) YX)))))) (Z4 (Zaw (cN 5 (cN 6 (cN 3 Zaj)))) (YZ (Y9 (Za (YT Y5 (YT (pv 5) (YT (C8.pe_mt b3 hr (by omega) (pv 0) (YT (pv 5) (YT (pv 6) YX))) (YT (C8.pe_mt b3 hr (by omega) (pv 0) (YT (pv 1) (YT (pv 3) YX))) YX))))))) (Z4 (Zaw (cN 3 (cN 7 Zaj))) (YZ (Y9 (Za (YT Y5 (YT (C8.pe_mt b3 hr (by omega) (pv 0) (YT (pv 1) (YT (pv 3) YX))) (YT (C8.pe_mt b9 hr (by omega) (pv 0) (YT (pv 1) (YT (pv 7) YX))) YX)))))) (Z4 (Zaw (cN 4 (cN 7 (cN 5 Zaj)))) (YZ (Y9 (Za (YT Y5 (YT (C8.pe_mt b8 hr (by omega) (pv 0) (YT (pv 1) (YT (pv 4) YX))) (YT (C8.pe_mt b9 hr (by omega) (pv 0) (YT (pv 1) (YT (pv 7) YX))) (YT (C8.pe_mt b9 hr (by omega) (pv 0) (YT (pv 1) (YT (pv 5) YX))) YX))))))) (Z4 (Zaw (cN 8 (cN 7 (cN 9 Zaj)))) (YZ (Y9 (Za (YT Y5 (YT (pv 8) (YT (C8.pe_mt b9 hr (by omega) (pv 0) (YT (pv 1) (YT (pv 7) YX))) (YT (C8.pe_mt b9 hr (by omega) (pv 0) (YT (pv 1) (YT (pv 9) YX))) YX))))))) (Z4 (Zaw (cN 5 Zaj)) (YZ (Y9 (pv 2))) (Z4 (cN 10 (cN 4 Zaj)) (YZ (Y9 (Za (YT (pv 10) (YT (C8.pe_mt b8 hr (by omega) (pv 0) (YT (pv 1) (YT (pv 4) YX))) YX))))) Zjb))))))))))
 (YZ (Y9 (pv 2))))
theorem Zcu:Xc ["self", "module", "block", "row"] ["self", "module", "block"] (YW Z6):=⟨rfl,rfl,rfl,by decide +kernel,rfl,by decide +kernel,by decide +kernel⟩
theorem Zd0{CN:YF}{n:Nat}{f:YF}{fd:YE}(F:FunD K "rows" "Renamer.rows" (Y3 Z6) (Y2 Z6) (YW Z6) [] [] f fd) (B:Blt mg) (b3:C8.Met P w K mg base (2 * n + 7) CN "statement" (ZC K CN n) []):Xn P w K mg base CX0 ((2 * n + 7) + 1) f fd ["self", "module", "block"] (Zy K CN n):=by
 refine F.ok Zcu (fun vs H Q E h=>by obtain⟨_,_,_,_,_,_,rfl,_⟩:=h; rfl) (fun cdv A outer s H vs Q E hr h=>⟨ZbO K CN (ZC K CN n),PSs.nox (?_),ZfJ vs H Q E h⟩)
 exact(YZ (Y9 (pe_tupleOf rfl B.tuple (pe_lc (own:=[("row",3)]) (g:=(Y6 3)) (tt:=tYes) rfl Zcu.nd (ZbR (pv 2)) (blkOk_by (N:=["self", "module", "block", "row"]) (sc:=YW Z6) (by decide +kernel)) (fun _ _ _ _ _=>(gN 3 Zcu.nd)) (fun _ _ _ _ _=>pts_nil) (fun _ _ _ _ _=>(C8.pe_mt b3 hr (by omega) (pv 0) (YT (pv 1) (YT (pv 3) YX))))))))
theorem Zdj:Xc ["program", "module", "old", "new", "renamer", "name"] ["program", "module", "old", "new"] (YW Zba):=⟨rfl,rfl,rfl,by decide +kernel,rfl,by decide +kernel,by decide +kernel⟩
theorem ZjY{CP CN CU CI CC:YF}{f:YF}{fd:YE}(F:FunD K "renamed" "renamed" (Y3 Zba) (Y2 Zba) (YW Zba) [] [] f fd) (B:Blt mg) (bd:MSl P w K mg base 3 CP "all_names" (ZL K CP)) (og:ZoR P w K mg base 1 CP (ZK K CP) (Zm K CP)) (bg:C8.Met P w K mg base 20 CN "rows" (Zy K CN 6) []) (bf:C8.Mak P w K mg base 14 "Program" CP (Zi K CP) []) (bi:C8.Mak P w K mg base 1 "Renamer" CN (ZQ K CN) []) (bc:C8.Cal P w K mg base 15 "can_rename" (Zby K CP) []) (b8:XTx K mg "CannotRename" CC) (bh:C8.Cal P w K mg base 1 "is_name" (ZO K) []) (b9:XTx K mg "InvalidName" CI) (b3:XMk P w K mg base 1 "UnknownModule" CU ["module"]):Xn P w K mg base (L2N.CX P w) (21 + 1) f fd ["program", "module", "old", "new"] (ZbM K CP CU CI CC):=by
 refine F.ok Zdj (fun vs H Q E h=>by obtain⟨_,_,_,_,_,_,rfl,_⟩:=h; rfl) (fun cdv A outer s H vs Q E hr h=>⟨ZcQ K CP CN CU CI CC (w0 E),?_,Zh9 vs H Q E h⟩)
 have tk:L2N.Takes (cxOf (L2N.CX P w) P w K mg base ["program", "module", "old", "new", "renamer", "name"] "renamed" (YW Zba) f cdv A outer s H E) (w0 E):=ZpX
 have tc:Zmi (cxOf (L2N.CX P w) P w K mg base ["program", "module", "old", "new", "renamer", "name"] "renamed" (YW Zba) f cdv A outer s H E):=ZsX
 exact(YY (ps_if (Y8 (og.nin hr (by omega)) (pv 1) (pv 0) rfl) (YZ (L2N.ps_raise rfl tk (b3.mk hr (by omega) rfl (pk_cons (pv 1) pk_nil)))) Y0)
 (YY (ps_if (pt_not (pt_val (C8.pe_c bh hr (by omega) rfl (YT (pv 3) YX)))) (YZ (L2N.ps_raise rfl tk (XTx.mk (x := "InvalidName") b9 (by rfl)))) Y0)
 (YY (ps_if (Y8 (Zab hr.units) (pv 2) (pv 3) (Xd _)) (YZ (Y9 (pv 0))) Y0)
 (YY (ps_if (pt_not (pt_val (C8.pe_c bc hr (by omega) rfl (YT (pv 0) (YT (pv 1) (YT (pv 2) (YT (pv 3) YX))))))) (YZ (L2N.ps_raise rfl tk (XTx.mk (x := "CannotRename") b8 (by rfl)))) Y0)
 (YY (sN 4 Zdj.nd (C8.pe_mk bi hr (by omega) rfl (YT (pv 1) (YT (pv 2) (YT (pv 3) YX)))))
 (YZ (Y9 (C8.pe_mk bf hr (by omega) rfl (YT (pe_dc (own:=[("name",5)]) (g:=(Y6 5)) (tt:=tYes) rfl Zdj.nd (ZbR (ZpZ bd hr (by omega) (pv 0))) (blkOk_by (N:=["program", "module", "old", "new", "renamer", "name"]) (sc:=YW Zba) (by decide +kernel)) (fun _ _ _ _ _=>(gN 5 Zdj.nd)) (fun _ _ _ _ _=>pts_nil) (fun _ _ _ _ _=>(pv 5)) (fun _ _ _ _ _=>(C8.pe_mt bg hr (by omega) (pv 4) (YT (pv 5) (YT (og.ix hr (by omega) (pv 0) (pv 5)) YX))))) YX)))))))))
theorem Zee:Xc ["_law_script", "_law_seed", "_law_state", "_law_cell"] ["_law_script", "_law_seed"] (YW Zcm):=⟨rfl,rfl,rfl,by decide +kernel,rfl,by decide +kernel,by decide +kernel⟩
theorem ZkY{f:YF}{fd:YE}(F:FunD K "_law_mix" "_law_mix" (Y3 Zcm) (Y2 Zcm) (YW Zcm) [] [] f fd) (B:Blt mg)  : Xn P w K mg base CX0 (0 + 1) f fd ["_law_script", "_law_seed"] (ZcM K):=by
 refine F.ok Zee (fun vs H Q E h=>by obtain⟨_,_,_,rfl,_⟩:=h; rfl) (fun cdv A outer s H vs Q E hr h=>⟨Zfn K ,PSs.nox (?_),ZiL vs H Q E h⟩)
 exact(YY (sN 2 Zee.nd (pv 1))
 (YY (ps_for PassesOwn.never rfl (ZbR (pv 0)) (gN 3 Zee.nd) (YZ (sN 2 Zee.nd (pe_op op_mod (pe_callTy Zgm rfl B.int Zfb (YT (pe_op Zae (pe_op Zae (pe_op op_mul (pv 2) Y4) (pe_op op_mod (pe_callTy Zgm rfl B.int Zfb (YT (pv 3) YX)) Y4)) Y4) YX)) Y4))))
 (YZ (Y9 (ZI (YT (pv 2) (YT (pe_callTy Zk1 rfl B.list Zk0 (YT (pv 0) YX)) (YT Y4 YX))))))))
theorem ZgZ:Xc ["_law_h", "_law_cap", "_law_cell"] ["_law_h", "_law_cap"] (YW ZbG):=⟨rfl,rfl,rfl,by decide +kernel,rfl,by decide +kernel,by decide +kernel⟩
theorem ZjZ{f:YF}{fd:YE}(F:FunD K "_law_next" "_law_next" (Y3 ZbG) (Y2 ZbG) (YW ZbG) [] [] f fd) (B:Blt mg)  : Xn P w K mg base CX0 (0 + 1) f fd ["_law_h", "_law_cap"] (Zd K):=by
 refine F.ok ZgZ (fun vs H Q E h=>by obtain⟨_,_,_,rfl,_⟩:=h; rfl) (fun cdv A outer s H vs Q E hr h=>⟨Zd5 K ,PSs.nox (?_),ZhP vs H Q E h⟩)
 exact(YY (sN 2 ZgZ.nd (Xg Y7 (pe_op Zae (Xg Y7 (pv 0) Y4 (fun _ _=>rfl)) (ZI (YT Y4 YX))) (pe_op op_mod (pe_callTy Zgm rfl B.int Zfb (YT (Xg Y7 (pv 0) Y4 (fun _ _=>rfl)) YX)) (Xr (Zo0 rfl) rfl B.max ZoY (YT Y4 (YT (Xr Zcj rfl B.len Zci (YT (Xg Y7 (pv 0) Y4 (fun _ _=>rfl)) YX)) YX)))) (fun _ _=>rfl)))
 (YY (ps_if (Y8 op_ge (pv 2) (pe_op op_pow Y4 Y4) (Xd _)) (YY (ps_asg (pe_op op_fdivW (pv 2) (pv 1)) (pg_sub (Xg Y7 (pv 0) Y4 (fun _ _=>rfl)) (pe_op op_mod (pe_callTy Zgm rfl B.int Zfb (YT (Xg Y7 (pv 0) Y4 (fun _ _=>rfl)) YX)) (Xr Zcj rfl B.len Zci (YT (Xg Y7 (pv 0) Y4 (fun _ _=>rfl)) YX))) set_list))
 (YZ (Y9 (pe_op op_mod (pe_callTy Zgm rfl B.int Zfb (YT (pv 2) YX)) (pv 1))))) Y0)
 (YY (ps_asg (pe_op op_mod (pe_callTy Zgm rfl B.int Zfb (YT (pe_op Zae (pe_op Zae (pe_op op_mul (Xg Y7 (pv 0) Y4 (fun _ _=>rfl)) Y4) (pe_op op_mul (pv 2) Y4)) Y4) YX)) Y4) (pg_sub (pv 0) Y4 set_list))
 (YY (ps_asg (pe_op Zae (Xg Y7 (pv 0) Y4 (fun _ _=>rfl)) Y4) (pg_sub (pv 0) Y4 set_list))
 (YZ (Y9 (pe_op op_mod (pe_callTy Zgm rfl B.int Zfb (YT (pe_op op_fdivW (Xg Y7 (pv 0) Y4 (fun _ _=>rfl)) Y4) YX)) (pv 1))))))))
theorem Zcv:Xc ["_law_h", "_law_words", "_law_letters", "_law_k"] ["_law_h"] (YW Zbn):=⟨rfl,rfl,rfl,by decide +kernel,rfl,by decide +kernel,by decide +kernel⟩
theorem Zj0{f:YF}{fd:YE}(F:FunD K "_law_name" "_law_name" (Y3 Zbn) (Y2 Zbn) (YW Zbn) [] [] f fd) (B:Blt mg) (b3:C8.Cal P w K mg base 1 "_law_next" (Zd K) []):Xn P w K mg base CX0 (1 + 1) f fd ["_law_h"] (ZaF K):=by
 refine F.ok Zcv (fun vs H Q E h=>by obtain⟨_,_,rfl,_⟩:=h; rfl) (fun cdv A outer s H vs Q E hr h=>⟨Zd6 K ,PSs.nox (?_),ZhQ vs H Q E h⟩)
 exact(YY (sN 1 Zcv.nd (ZI (YT Y5 (YT Y5 (YT Y5 (YT Y5 (YT Y5 (YT Y5 (YT Y5 (YT Y5 (YT Y5 (YT Y5 (YT Y5 (YT Y5 (YT Y5 (YT Y5 YX))))))))))))))))
 (YY (sN 2 Zcv.nd Y5)
 (YY (ps_if (Y8 (Zab hr.units) (C8.pe_c b3 hr (by omega) rfl (YT (pv 0) (YT Y4 YX))) Y4 (Xd _)) (YZ (Y9 (Xg Y7 (pv 1) (C8.pe_c b3 hr (by omega) rfl (YT (pv 0) (YT Y4 YX))) (fun _ _=>rfl)))) Y0)
 (YZ (Y9 (Zmb Y5 (pe_lc (own:=[("_law_k",3)]) (g:=(Y6 3)) (tt:=tYes) rfl Zcv.nd (pi_range1 rfl B.range (YT (pe_op Zae Y4 (C8.pe_c b3 hr (by omega) rfl (YT (pv 0) (YT (Xg Y7 (ZI (YT Y4 (YT Y4 YX))) (C8.pe_c b3 hr (by omega) rfl (YT (pv 0) (YT Y4 YX))) (fun _ _=>rfl)) YX)))) YX)) (blkOk_by (N:=["_law_h", "_law_words", "_law_letters", "_law_k"]) (sc:=YW Zbn) (by decide +kernel)) (fun _ _ _ _ _=>(gN 3 Zcv.nd)) (fun _ _ _ _ _=>pts_nil) (fun _ _ _ _ _=>(Xg Y7 (pv 2) (C8.pe_c b3 hr (by omega) rfl (YT (pv 0) (YT Y4 YX))) (fun _ _=>rfl))))))))))
theorem ZcC:Xc ["_law_h", "_law_many", "_law_found", "_law_k", "_law_name_here"] ["_law_h", "_law_many"] (YW Zbk):=⟨rfl,rfl,rfl,by decide +kernel,rfl,by decide +kernel,by decide +kernel⟩
theorem Zi5{f:YF}{fd:YE}(F:FunD K "_law_names" "_law_names" (Y3 Zbk) (Y2 Zbk) (YW Zbk) [] [] f fd) (B:Blt mg) (b3:C8.Cal P w K mg base 1 "_law_next" (Zd K) []) (b8:C8.Cal P w K mg base 2 "_law_name" (ZaF K) []):Xn P w K mg base CX0 (2 + 1) f fd ["_law_h", "_law_many"] (Zbq K):=by
 refine F.ok ZcC (fun vs H Q E h=>by obtain⟨_,_,_,rfl,_⟩:=h; rfl) (fun cdv A outer s H vs Q E hr h=>⟨Zc3 K ,PSs.nox (?_),Zg7 vs H Q E h⟩)
 exact(YY (sN 2 ZcC.nd (ZI YX))
 (YY (ps_for PassesOwn.never rfl (pi_range1 rfl B.range (YT (pe_op Zae Y4 (C8.pe_c b3 hr (by omega) rfl (YT (pv 0) (YT (pv 1) YX)))) YX)) (gN 3 ZcC.nd) (YY (sN 4 ZcC.nd (C8.pe_c b8 hr (by omega) rfl (YT (pv 0) YX)))
 (YZ (ps_if (Y8 Zdz (pv 4) (pv 2) rfl) (YZ (Xf (pe_bm PySem.F.plainAttrs_list PySem.F.slot_list_append PySem.F.type_list_append mt_append (pv 2) (YT (pv 4) YX)))) Y0))))
 (YZ (Y9 (pv 2)))))
theorem ZeS:Xc ["_law_h", "_law_kind"] ["_law_h"] (YW Zal):=⟨rfl,rfl,rfl,by decide +kernel,rfl,by decide +kernel,by decide +kernel⟩
theorem Zhf{f:YF}{fd:YE}(F:FunD K "_law_integer" "_law_integer" (Y3 Zal) (Y2 Zal) (YW Zal) [] [] f fd) (B:Blt mg) (b3:C8.Cal P w K mg base 1 "_law_next" (Zd K) []):Xn P w K mg base CX0 (1 + 1) f fd ["_law_h"] (ZH K):=by
 refine F.ok ZeS (fun vs H Q E h=>by obtain⟨_,_,rfl,_⟩:=h; rfl) (fun cdv A outer s H vs Q E hr h=>⟨Zb_ K ,PSs.nox (?_),Zf3 vs H Q E h⟩)
 exact(YY (sN 1 ZeS.nd (C8.pe_c b3 hr (by omega) rfl (YT (pv 0) (YT Y4 YX))))
 (YY (ps_if (Y8 op_lt (pv 1) Y4 (Xd _)) (YZ (Y9 (pv 1))) Y0)
 (YY (ps_if (Y8 (Zab hr.units) (pv 1) Y4 (Xd _)) (YZ (Y9 (pe_op op_sub (pe_op op_sub (pe_op op_pow Y4 Y4) Y4) (C8.pe_c b3 hr (by omega) rfl (YT (pv 0) (YT Y4 YX)))))) Y0)
 (YZ (Y9 (pe_op op_mul (Xg Y7 (ZI (YT Y4 (YT (pe_un un_neg Y4) YX))) (C8.pe_c b3 hr (by omega) rfl (YT (pv 0) (YT Y4 YX))) (fun _ _=>rfl)) (C8.pe_c b3 hr (by omega) rfl (YT (pv 0) (YT (Xg Y7 (ZI (YT Y4 (YT Y4 (YT (pe_op op_pow Y4 Y4) YX)))) (pe_op op_sub (pv 1) Y4) (fun _ _=>rfl)) YX)))))))))
theorem Zg0:Xc ["_law_h", "_law_names_here", "_law_depth", "_law_kind", "_law_name_here"] ["_law_h", "_law_names_here", "_law_depth"] (YW ZbH):=⟨rfl,rfl,rfl,by decide +kernel,rfl,by decide +kernel,by decide +kernel⟩
theorem Zj1{n:Nat}{f:YF}{fd:YE}(F:FunD K "_law_expr" "_law_expr" (Y3 ZbH) (Y2 ZbH) (YW ZbH) [] [] f fd) (B:Blt mg) (b9:C8.Cal P w K mg base 2 "_law_integer" (ZH K) []) (b3:C8.Cal P w K mg base 1 "_law_next" (Zd K) []) (b8:C8.Cal P w K mg base (n + 2) "_law_expr" (ZN K n) []):Xn P w K mg base CX0 ((n + 2) + 1) f fd ["_law_h", "_law_names_here", "_law_depth"] (ZN K (n + 1)):=by
 refine F.ok Zg0 (fun vs H Q E h=>by obtain⟨_,_,_,_,_,rfl,_⟩:=h; rfl) (fun cdv A outer s H vs Q E hr h=>⟨Zd7 K (ZN K n),PSs.nox (?_),ZhS vs H Q E h⟩)
 exact(YY (ps_par rfl Zg0.nd rfl rfl (by decide) rfl rfl (YT (C8.pe_c b3 hr (by omega) rfl (YT (pv 0) (YT Y4 YX))) (YT (Xg Y7 (pv 1) (C8.pe_c b3 hr (by omega) rfl (YT (pv 0) (YT (Xr Zcj rfl B.len Zci (YT (pv 1) YX)) YX))) (fun _ _=>rfl)) YX)) (by rfl))
 (YY (ps_if (PW.pt (pw_and (Y8 op_gt (pv 3) Y4 (Xd _)) (pw_and1 (Y8 op_gt (pv 2) Y4 (Xd _))))) (YZ (Y9 (Za (YT (Xg Y7 (ZI (YT Y5 (YT Y5 YX))) (pe_op op_sub (pv 3) Y4) (fun _ _=>rfl)) (YT (C8.pe_c b8 hr (by omega) rfl (YT (pv 0) (YT (pv 1) (YT (pe_op op_sub (pv 2) Y4) YX)))) (YT (C8.pe_c b8 hr (by omega) rfl (YT (pv 0) (YT (pv 1) (YT (pe_op op_sub (pv 2) Y4) YX)))) YX)))))) Y0)
 (YY (ps_if (Y8 (Zab hr.units) (pv 3) Y4 (Xd _)) (YZ (Y9 (Za (YT Y5 (YT (pv 4) (YT (Xg Y7 (pv 1) (C8.pe_c b3 hr (by omega) rfl (YT (pv 0) (YT (Xr Zcj rfl B.len Zci (YT (pv 1) YX)) YX))) (fun _ _=>rfl)) YX)))))) Y0)
 (YZ (Y9 (pe_ifExp (Y8 op_gt (pv 3) Y4 (Xd _)) (Za (YT Y5 (YT (pv 4) YX))) (C8.pe_c b9 hr (by omega) rfl (YT (pv 0) YX))))))))
theorem Ze9:Xc ["_law_h", "_law_modules", "_law_names_here", "_law_target", "_law_name_here", "_law_wanted", "_law_kind"] ["_law_h", "_law_modules", "_law_names_here"] (YW ZbI):=⟨rfl,rfl,rfl,by decide +kernel,rfl,by decide +kernel,by decide +kernel⟩
theorem Zj2{f:YF}{fd:YE}(F:FunD K "_law_load" "_law_load" (Y3 ZbI) (Y2 ZbI) (YW ZbI) [] [] f fd) (B:Blt mg) (b3:C8.Cal P w K mg base 1 "_law_next" (Zd K) []):Xn P w K mg base CX0 (1 + 1) f fd ["_law_h", "_law_modules", "_law_names_here"] (Zcq K):=by
 refine F.ok Ze9 (fun vs H Q E h=>by obtain⟨_,_,_,_,_,_,rfl,_⟩:=h; rfl) (fun cdv A outer s H vs Q E hr h=>⟨Zec K ,PSs.nox (?_),ZhZ vs H Q E h⟩)
 exact(YY (sN 3 Ze9.nd (pe_ifExp (Y8 op_gt (C8.pe_c b3 hr (by omega) rfl (YT (pv 0) (YT Y4 YX))) Y4 (Xd _)) (Xg Y7 (pv 1) (C8.pe_c b3 hr (by omega) rfl (YT (pv 0) (YT (Xr Zcj rfl B.len Zci (YT (pv 1) YX)) YX))) (fun _ _=>rfl)) Y5))
 (YY (ps_par3 rfl Ze9.nd rfl rfl rfl (by decide) (by decide) (by decide) rfl rfl rfl (YT (Xg Y7 (pv 2) (C8.pe_c b3 hr (by omega) rfl (YT (pv 0) (YT (Xr Zcj rfl B.len Zci (YT (pv 2) YX)) YX))) (fun _ _=>rfl)) (YT (Xg Y7 (pv 2) (C8.pe_c b3 hr (by omega) rfl (YT (pv 0) (YT (Xr Zcj rfl B.len Zci (YT (pv 2) YX)) YX))) (fun _ _=>rfl)) (YT (C8.pe_c b3 hr (by omega) rfl (YT (pv 0) (YT Y4 YX))) YX))) (by rfl))
 (YY (ps_if (Y8 op_lt (pv 6) Y4 (Xd _)) (YZ (Y9 (Za (YT Y5 (YT (pv 3) (YT (pv 4) YX)))))) Y0)
 (YZ (Y9 (pe_ifExp (Y8 op_lt (pv 6) Y4 (Xd _)) (Za (YT Y5 (YT (pv 3) (YT (pv 5) (YT (pv 4) YX))))) (Za (YT Y5 (YT (pv 3) YX)))))))))
theorem Zau:Xc ["_law_h", "_law_modules", "_law_names_here", "_law_depth", "_law_block", "_law_other", "_law_kinds", "_law_kind", "_law_name_here"] ["_law_h", "_law_modules", "_law_names_here", "_law_depth"] (YW Z9):=⟨rfl,rfl,rfl,by decide +kernel,rfl,by decide +kernel,by decide +kernel⟩
theorem Zgb{n:Nat}{f:YF}{fd:YE}(F:FunD K "_law_statement" "_law_statement" (Y3 Z9) (Y2 Z9) (YW Z9) [] [] f fd) (B:Blt mg) (b3:C8.Cal P w K mg base 1 "_law_next" (Zd K) []) (b8:C8.Cal P w K mg base 7 "_law_expr" (ZN K 5) []) (b9:C8.Cal P w K mg base (2 * n + 11) "_law_rows" (Z1 K n) []) (bc:C8.Cal P w K mg base 2 "_law_integer" (ZH K) []) (bd:C8.Cal P w K mg base 2 "_law_load" (Zcq K) []):Xn P w K mg base CX0 ((2 * n + 11) + 1) f fd ["_law_h", "_law_modules", "_law_names_here", "_law_depth"] (Z0 K (n + 1)):=by
 refine F.ok Zau (fun vs H Q E h=>by obtain⟨_,_,_,_,_,_,_,rfl,_⟩:=h; rfl) (fun cdv A outer s H vs Q E hr h=>⟨Zbx K (Z1 K n),PSs.nox (?_),Zfs vs H Q E h⟩)
 exact(YY (ps_par rfl Zau.nd rfl rfl (by decide) rfl rfl (YT (C8.pe_c b3 hr (by omega) rfl (YT (pv 0) (YT Y4 YX))) (YT (Xg Y7 (pv 2) (C8.pe_c b3 hr (by omega) rfl (YT (pv 0) (YT (Xr Zcj rfl B.len Zci (YT (pv 2) YX)) YX))) (fun _ _=>rfl)) YX)) (by rfl))
 (YY (ps_if (Y8 op_lt (pv 7) Y4 (Xd _)) (YZ (Y9 (C8.pe_c bd hr (by omega) rfl (YT (pv 0) (YT (pv 1) (YT (pv 2) YX)))))) Y0)
 (YY (ps_if (PW.pt (pw_or (Y8 op_lt (pv 7) Y4 (Xd _)) (pw_or1 (PW.pt (pw_and (Y8 op_gt (pv 7) Y4 (Xd _)) (pw_and1 (Y8 op_gt (pv 3) Y4 (Xd _)))))))) (YZ (Y9 (Za (YT Y5 (YT (pv 8) (YT (C8.pe_c b8 hr (by omega) rfl (YT (pv 0) (YT (pv 2) (YT Y4 YX)))) YX)))))) Y0)
 (YY (ps_if (Y8 op_lt (pv 7) Y4 (Xd _)) (YZ (Y9 (Xg Y7 (ZI (YT (Za (YT Y5 (YT (pv 8) YX))) (YT (Za (YT Y5 (YT (C8.pe_c b8 hr (by omega) rfl (YT (pv 0) (YT (pv 2) (YT Y4 YX)))) YX))) (YT (Za (YT Y5 (YT (Za (YT Y5 (YT (pv 8) YX))) YX))) YX)))) (pe_op op_sub (pv 7) Y4) (fun _ _=>rfl)))) Y0)
 (YY (ps_if (Y8 (Zab hr.units) (pv 7) Y4 (Xd _)) (YZ (Y9 (Za (YT Y5 (YT (pe_ifExp (Y8 op_gt (C8.pe_c b3 hr (by omega) rfl (YT (pv 0) (YT Y4 YX))) Y4 (Xd _)) (Za (YT Y5 (YT (pv 8) YX))) (C8.pe_c b8 hr (by omega) rfl (YT (pv 0) (YT (pv 2) (YT Y4 YX))))) YX))))) Y0)
 (YY (ps_if (Y8 (Zab hr.units) (pv 7) Y4 (Xd _)) (YZ (Y9 (pe_ifExp (Y8 (Zab hr.units) (C8.pe_c b3 hr (by omega) rfl (YT (pv 0) (YT Y4 YX))) Y4 (Xd _)) (Za (YT Y5 YX)) (Za (YT Y5 (YT (C8.pe_c bc hr (by omega) rfl (YT (pv 0) YX)) YX)))))) Y0)
 (YY (sN 4 Zau.nd (C8.pe_c b9 hr (by omega) rfl (YT (pv 0) (YT (pv 1) (YT (pv 2) (YT (pe_op Zae (pv 3) Y4) (YT (pe_op op_sub Y4 (pv 3)) YX)))))))
 (YY (sN 5 Zau.nd (C8.pe_c b9 hr (by omega) rfl (YT (pv 0) (YT (pv 1) (YT (pv 2) (YT (pe_op Zae (pv 3) Y4) (YT (pe_op op_sub Y4 (pv 3)) YX)))))))
 (YY (ps_if (Y8 (Zab hr.units) (pv 7) Y4 (Xd _)) (YZ (Y9 (Za (YT Y5 (YT (pv 8) (YT (pv 4) YX)))))) Y0)
 (YY (ps_if (Y8 (Zab hr.units) (pv 7) Y4 (Xd _)) (YZ (Y9 (Za (YT Y5 (YT (C8.pe_c b8 hr (by omega) rfl (YT (pv 0) (YT (pv 2) (YT Y4 YX)))) (YT (pv 4) (YT (pv 5) YX))))))) Y0)
 (YY (sN 6 Zau.nd (ZI (YT Y5 (YT Y5 (YT Y5 (YT Y5 (YT Y5 (YT Y5 (YT Y5 (YT Y5 YX))))))))))
 (YZ (Y9 (Za (YT Y5 (YT (Xg Y7 (pv 6) (C8.pe_c b3 hr (by omega) rfl (YT (pv 0) (YT Y4 YX))) (fun _ _=>rfl)) (YT (pv 4) (YT (pv 5) YX))))))))))))))))))
theorem Ze_:Xc ["_law_h", "_law_modules", "_law_names_here", "_law_depth", "_law_most", "_law_k"] ["_law_h", "_law_modules", "_law_names_here", "_law_depth", "_law_most"] (YW Zbo):=⟨rfl,rfl,rfl,by decide +kernel,rfl,by decide +kernel,by decide +kernel⟩
theorem Zg1{n:Nat}{f:YF}{fd:YE}(F:FunD K "_law_rows" "_law_rows" (Y3 Zbo) (Y2 Zbo) (YW Zbo) [] [] f fd) (B:Blt mg) (b8:C8.Cal P w K mg base 1 "_law_next" (Zd K) []) (b3:C8.Cal P w K mg base (2 * n + 10) "_law_statement" (Z0 K n) []):Xn P w K mg base CX0 ((2 * n + 10) + 1) f fd ["_law_h", "_law_modules", "_law_names_here", "_law_depth", "_law_most"] (Z1 K n):=by
 refine F.ok Ze_ (fun vs H Q E h=>by obtain⟨_,_,_,_,_,_,_,_,rfl,_⟩:=h; rfl) (fun cdv A outer s H vs Q E hr h=>⟨Zed K (Z0 K n),PSs.nox (?_),Zh0 vs H Q E h⟩)
 exact(YZ (Y9 (pe_tupleOf rfl B.tuple (pe_lc (own:=[("_law_k",5)]) (g:=(Y6 5)) (tt:=tYes) rfl Ze_.nd (pi_range1 rfl B.range (YT (C8.pe_c b8 hr (by omega) rfl (YT (pv 0) (YT (pe_op Zae (pv 4) Y4) YX))) YX)) (blkOk_by (N:=["_law_h", "_law_modules", "_law_names_here", "_law_depth", "_law_most", "_law_k"]) (sc:=YW Zbo) (by decide +kernel)) (fun _ _ _ _ _=>(gN 5 Ze_.nd)) (fun _ _ _ _ _=>pts_nil) (fun _ _ _ _ _=>(C8.pe_c b3 hr (by omega) rfl (YT (pv 0) (YT (pv 1) (YT (pv 2) (YT (pv 3) YX))))))))))
theorem ZaQ:Xc ["_law_h", "_law_modules", "_law_names_here", "_law_found", "_law_name_here", "_law_kind"] ["_law_h", "_law_modules", "_law_names_here"] (YW ZY):=⟨rfl,rfl,rfl,by decide +kernel,rfl,by decide +kernel,by decide +kernel⟩
theorem ZfQ{f:YF}{fd:YE}(F:FunD K "_law_first_rows" "_law_first_rows" (Y3 ZY) (Y2 ZY) (YW ZY) [] [] f fd) (B:Blt mg) (b9:C8.Cal P w K mg base 17 "_law_rows" (Z1 K 3) []) (b3:C8.Cal P w K mg base 2 "_law_integer" (ZH K) []) (b8:C8.Cal P w K mg base 1 "_law_next" (Zd K) []):Xn P w K mg base CX0 (17 + 1) f fd ["_law_h", "_law_modules", "_law_names_here"] (Zah K):=by
 refine F.ok ZaQ (fun vs H Q E h=>by obtain⟨_,_,_,_,_,_,rfl,_⟩:=h; rfl) (fun cdv A outer s H vs Q E hr h=>⟨Zbf K ,PSs.nox (?_),ZeX vs H Q E h⟩)
 exact(YY (sN 3 ZaQ.nd (ZI YX))
 (YY (ps_for PassesOwn.never rfl (ZbR (pv 2)) (gN 4 ZaQ.nd) (YY (sN 5 ZaQ.nd (C8.pe_c b8 hr (by omega) rfl (YT (pv 0) (YT Y4 YX))))
 (YY (ps_if (Y8 (Zab hr.units) (pv 5) Y4 (Xd _)) (YZ (Xf (pe_bm PySem.F.plainAttrs_list PySem.F.slot_list_append PySem.F.type_list_append mt_append (pv 3) (YT (Za (YT Y5 (YT (pv 4) (YT (C8.pe_c b3 hr (by omega) rfl (YT (pv 0) YX)) YX)))) YX)))) Y0)
 (YZ (ps_if (Y8 (Zab hr.units) (pv 5) Y4 (Xd _)) (YZ (Xf (pe_bm PySem.F.plainAttrs_list PySem.F.slot_list_append PySem.F.type_list_append mt_append (pv 3) (YT (Za (YT Y5 (YT (pv 4) (YT (C8.pe_c b9 hr (by omega) rfl (YT (pv 0) (YT (pv 1) (YT (pv 2) (YT Y4 (YT Y4 YX)))))) YX)))) YX)))) Y0)))))
 (YZ (Y9 (pe_tupleOf rfl B.tuple (pv 3))))))
theorem ZbQ:Xc ["_law_h", "_law_most", "_law_found", "_law_module", "_law_modules", "_law_names_here"] ["_law_h", "_law_most"] (YW Zam):=⟨rfl,rfl,rfl,by decide +kernel,rfl,by decide +kernel,by decide +kernel⟩
theorem Zhg{f:YF}{fd:YE}(F:FunD K "_law_program" "_law_program" (Y3 Zam) (Y2 Zam) (YW Zam) [] [] f fd) (B:Blt mg) (b3:C8.Cal P w K mg base 18 "_law_first_rows" (Zah K) []) (b9:C8.Cal P w K mg base 17 "_law_rows" (Z1 K 3) []) (b8:C8.Cal P w K mg base 3 "_law_names" (Zbq K) []):Xn P w K mg base CX0 (18 + 1) f fd ["_law_h", "_law_most"] (ZaM K):=by
 refine F.ok ZbQ (fun vs H Q E h=>by obtain⟨_,_,_,rfl,_⟩:=h; rfl) (fun cdv A outer s H vs Q E hr h=>⟨Zcb K ,PSs.nox (?_),ZfK vs H Q E h⟩)
 exact(YY (ps_par rfl ZbQ.nd rfl rfl (by decide) rfl rfl (YT (C8.pe_c b8 hr (by omega) rfl (YT (pv 0) (YT Y4 YX))) (YT (C8.pe_c b8 hr (by omega) rfl (YT (pv 0) (YT Y4 YX))) YX)) (by rfl))
 (YY (sN 2 ZbQ.nd Zn1)
 (YY (ps_for PassesOwn.never rfl (ZbR (pv 4)) (gN 3 ZbQ.nd) (YZ (ps_asg (pe_op Zae (C8.pe_c b3 hr (by omega) rfl (YT (pv 0) (YT (pv 4) (YT (pv 5) YX)))) (C8.pe_c b9 hr (by omega) rfl (YT (pv 0) (YT (pv 4) (YT (pv 5) (YT Y4 (YT (pv 1) YX))))))) (pg_sub (pv 2) (pv 3) (Zfg hr.units)))))
 (YZ (Y9 (Za (YT (pv 4) (YT (pv 5) (YT (pv 2) YX)))))))))
theorem ZfR:Xc ["_law_expr_here", "_law_lost", "_law_other"] ["_law_expr_here", "_law_lost", "_law_other"] (YW ZZ):=⟨rfl,rfl,rfl,by decide +kernel,rfl,by decide +kernel,by decide +kernel⟩
theorem ZfS{n:Nat}{f:YF}{fd:YE}(F:FunD K "_law_plain_expr" "_law_plain_expr" (Y3 ZZ) (Y2 ZZ) (YW ZZ) [] [] f fd) (B:Blt mg) (b3:C8.Cal P w K mg base (n + 1) "_law_plain_expr" (Zl K n) []):Xn P w K mg base CX0 ((n + 1) + 1) f fd ["_law_expr_here", "_law_lost", "_law_other"] (Zl K (n + 1)):=by
 refine F.ok ZfR (fun vs H Q E h=>by obtain⟨_,_,_,_,_,rfl,_⟩:=h; rfl) (fun cdv A outer s H vs Q E hr h=>⟨Zbh K (Zl K n),PSs.nox (?_),Ze5 vs H Q E h⟩)
 exact(YY (ps_if (PW.pt (pw_or (pt_val (Xr call_isi rfl B.isinstance Zbu (YT (pv 0) (YT (pe_bltn rfl B.int Zfb rfl) YX)))) (pw_or1 (Y8 (Zab hr.units) (Xg Y7 (pv 0) Y4 (fun _ _=>rfl)) Y5 (Xd _))))) (YZ (Y9 (pv 0))) Y0)
 (YY (ps_if (Y8 (Zab hr.units) (Xg Y7 (pv 0) Y4 (fun _ _=>rfl)) Y5 (Xd _)) (YZ (Y9 (pe_ifExp (Y8 Zgo (Xg Y7 (pv 0) Y4 (fun _ _=>rfl)) (pv 1) rfl) (Za (YT Y5 (YT (Xg Y7 (pv 0) Y4 (fun _ _=>rfl)) (YT (pv 2) YX)))) (pv 0)))) Y0)
 (YZ (Y9 (Za (YT (Xg Y7 (pv 0) Y4 (fun _ _=>rfl)) (YT (C8.pe_c b3 hr (by omega) rfl (YT (Xg Y7 (pv 0) Y4 (fun _ _=>rfl)) (YT (pv 1) (YT (pv 2) YX)))) (YT (C8.pe_c b3 hr (by omega) rfl (YT (Xg Y7 (pv 0) Y4 (fun _ _=>rfl)) (YT (pv 1) (YT (pv 2) YX)))) YX))))))))
theorem Zad:Xc ["_law_block", "_law_lost", "_law_other", "_law_found", "_law_row", "_law_head"] ["_law_block", "_law_lost", "_law_other"] (YW Zbl):=⟨rfl,rfl,rfl,by decide +kernel,rfl,by decide +kernel,by decide +kernel⟩
theorem Zi6{n:Nat}{f:YF}{fd:YE}(F:FunD K "_law_plain" "_law_plain" (Y3 Zbl) (Y2 Zbl) (YW Zbl) [] [] f fd) (B:Blt mg) (b3:C8.Cal P w K mg base 6 "_law_plain_expr" (Zl K 5) []) (b8:C8.Cal P w K mg base (n + 7) "_law_plain" (ZM K n) []):Xn P w K mg base CX0 ((n + 7) + 1) f fd ["_law_block", "_law_lost", "_law_other"] (ZM K (n + 1)):=by
 refine F.ok Zad (fun vs H Q E h=>by obtain⟨_,_,_,_,_,rfl,_⟩:=h; rfl) (fun cdv A outer s H vs Q E hr h=>⟨Zde K (ZM K n),PSs.nox (?_),Zhc vs H Q E h⟩)
 exact(YY (sN 3 Zad.nd (ZI YX))
 (YY (ps_for PassesOwn.never rfl (ZbR (pv 0)) (gN 4 Zad.nd) (YY (ps_if (Y8 (Zab hr.units) (Xg Y7 (pv 4) Y4 (fun _ _=>rfl)) Y5 (Xd _)) (YZ (sN 4 Zad.nd (Za (YT Y5 (YT Y4 YX))))) (YZ (ps_if (Y8 Zgo (Xg Y7 (pv 4) Y4 (fun _ _=>rfl)) (Za (YT Y5 (YT Y5 YX))) rfl) (YZ (sN 4 Zad.nd (Za (YT (Xg Y7 (pv 4) Y4 (fun _ _=>rfl)) (YT (C8.pe_c b3 hr (by omega) rfl (YT (Xg Y7 (pv 4) Y4 (fun _ _=>rfl)) (YT (pv 1) (YT (pv 2) YX)))) YX))))) (YZ (ps_if (Y8 (Zab hr.units) (Xg Y7 (pv 4) Y4 (fun _ _=>rfl)) Y5 (Xd _)) (YZ (sN 4 Zad.nd (Za (YT Y5 (YT (Xg Y7 (pv 4) Y4 (fun _ _=>rfl)) (YT (C8.pe_c b3 hr (by omega) rfl (YT (Xg Y7 (pv 4) Y4 (fun _ _=>rfl)) (YT (pv 1) (YT (pv 2) YX)))) YX)))))) (YZ (ps_if (Y8 (Zab hr.units) (Xg Y7 (pv 4) Y4 (fun _ _=>rfl)) Y5 (Xd _)) (YZ (sN 4 Zad.nd (Za (YT Y5 (YT (Xg Y7 (pv 4) Y4 (fun _ _=>rfl)) (YT (C8.pe_c b8 hr (by omega) rfl (YT (Xg Y7 (pv 4) Y4 (fun _ _=>rfl)) (YT (pv 1) (YT (pv 2) YX)))) YX)))))) (YZ (ps_if (Y8 Zgo (Xg Y7 (pv 4) Y4 (fun _ _=>rfl)) (Za (YT Y5 (YT Y5 YX))) rfl) (YY (sN 5 Zad.nd (pe_ifExp (Y8 (Zab hr.units) (Xg Y7 (pv 4) Y4 (fun _ _=>rfl)) Y5 (Xd _)) (C8.pe_c b3 hr (by omega) rfl (YT (Xg Y7 (pv 4) Y4 (fun _ _=>rfl)) (YT (pv 1) (YT (pv 2) YX)))) (Xg Y7 (pv 4) Y4 (fun _ _=>rfl))))
 (YZ (sN 4 Zad.nd (Za (YT (Xg Y7 (pv 4) Y4 (fun _ _=>rfl)) (YT (pv 5) (YT (C8.pe_c b8 hr (by omega) rfl (YT (Xg Y7 (pv 4) Y4 (fun _ _=>rfl)) (YT (pv 1) (YT (pv 2) YX)))) (YT (C8.pe_c b8 hr (by omega) rfl (YT (Xg Y7 (pv 4) Y4 (fun _ _=>rfl)) (YT (pv 1) (YT (pv 2) YX)))) YX)))))))) Y0)))))))))
 (YZ (Xf (pe_bm PySem.F.plainAttrs_list PySem.F.slot_list_append PySem.F.type_list_append mt_append (pv 3) (YT (pv 4) YX))))))
 (YZ (Y9 (pe_tupleOf rfl B.tuple (pv 3))))))
theorem ZcD:Xc ["_law_h", "_law_names_here", "_law_name_here", "_law_each"] ["_law_h", "_law_names_here"] (YW ZaD):=⟨rfl,rfl,rfl,by decide +kernel,rfl,by decide +kernel,by decide +kernel⟩
theorem Zi7{f:YF}{fd:YE}(F:FunD K "_law_fresh" "_law_fresh" (Y3 ZaD) (Y2 ZaD) (YW ZaD) [] [] f fd) (B:Blt mg) (b3:C8.Cal P w K mg base 2 "_law_name" (ZaF K) []):Xn P w K mg base CX0 (2 + 1) f fd ["_law_h", "_law_names_here"] (Zb3 K):=by
 refine F.ok ZcD (fun vs H Q E h=>by obtain⟨_,_,_,_,rfl,_⟩:=h; rfl) (fun cdv A outer s H vs Q E hr h=>⟨Zdf K ,PSs.nox (?_),Zhd vs H Q E h⟩)
 exact(YY (sN 2 ZcD.nd (C8.pe_c b3 hr (by omega) rfl (YT (pv 0) YX)))
 (YZ (Y9 (Xg Y7 (pe_lc (own:=[("_law_each",3)]) (g:=(Y6 3)) (tt:=(Xe (tOp (ZbD K) (YU 3) (YU 1)))) rfl ZcD.nd (ZbR (ZI (YT (pv 2) (YT Y5 (YT Y5 (YT Y5 (YT Y5 (YT Y5 YX)))))))) (blkOk_by (N:=["_law_h", "_law_names_here", "_law_name_here", "_law_each"]) (sc:=YW ZaD) (by decide +kernel)) (fun _ _ _ _ _=>(gN 3 ZcD.nd)) (fun _ _ _ _ _=>(pts_one (Y8 Zdz (pv 3) (pv 1) rfl))) (fun _ _ _ _ _=>(pv 3))) Y4 (fun _ _=>rfl)))))
theorem Zr:Xc ["_law_h", "_law_new", "_law_other", "_law_module", "_law_modules", "_law_names_here", "_law_program_here", "_law_target", "_law_old", "_law_each"] ["_law_h"] (YW ZS):=⟨rfl,rfl,rfl,by decide +kernel,rfl,by decide +kernel,by decide +kernel⟩
theorem Zgc{f:YF}{fd:YE}(F:FunD K "_law_renamable" "_law_renamable" (Y3 ZS) (Y2 ZS) (YW ZS) [] [] f fd) (B:Blt mg) (bc:C8.Cal P w K mg base 12 "_law_plain" (ZM K 5) []) (b9:C8.Cal P w K mg base 3 "_law_fresh" (Zb3 K) []) (b3:C8.Cal P w K mg base 1 "_law_next" (Zd K) []) (b8:C8.Cal P w K mg base 19 "_law_program" (ZaM K) []):Xn P w K mg base CX0 (19 + 1) f fd ["_law_h"] (Zat K):=by
 refine F.ok Zr (fun vs H Q E h=>by obtain⟨_,_,rfl,_⟩:=h; rfl) (fun cdv A outer s H vs Q E hr h=>⟨Zbz K ,PSs.nox (?_),ZfA vs H Q E h⟩)
 exact(YY (ps_asg (C8.pe_c b8 hr (by omega) rfl (YT (pv 0) (YT Y4 YX))) (pg_tup rfl (pgs_cons (gN 4 Zr.nd) (pgs_cons (gN 5 Zr.nd) (pgs_cons (gN 6 Zr.nd) pgs_nil)))))
 (YY (ps_asg (Za (YT (Xg Y7 (pv 4) (C8.pe_c b3 hr (by omega) rfl (YT (pv 0) (YT (Xr Zcj rfl B.len Zci (YT (pv 4) YX)) YX))) (fun _ _=>rfl)) (YT (Xg Y7 (pv 5) (C8.pe_c b3 hr (by omega) rfl (YT (pv 0) (YT (Xr Zcj rfl B.len Zci (YT (pv 5) YX)) YX))) (fun _ _=>rfl)) YX))) (pg_tup rfl (pgs_cons (gN 7 Zr.nd) (pgs_cons (gN 8 Zr.nd) pgs_nil))))
 (YY (sN 1 Zr.nd (C8.pe_c b9 hr (by omega) rfl (YT (pv 0) (YT (pv 5) YX))))
 (YY (sN 2 Zr.nd (Xg Y7 (pe_lc (own:=[("_law_each",9)]) (g:=(Y6 9)) (tt:=(Xe (tOp (ZbD K) (YU 9) (Zf K (YV (YU 8) (YV (YU 1) Y1)))))) rfl Zr.nd (ZbR (ZI (YT Y5 (YT Y5 (YT Y5 YX))))) (blkOk_by (N:=["_law_h", "_law_new", "_law_other", "_law_module", "_law_modules", "_law_names_here", "_law_program_here", "_law_target", "_law_old", "_law_each"]) (sc:=YW ZS) (by decide +kernel)) (fun _ _ _ _ _=>(gN 9 Zr.nd)) (fun _ _ _ _ _=>(pts_one (Y8 Zdz (pv 9) (Za (YT (pv 8) (YT (pv 1) YX))) rfl))) (fun _ _ _ _ _=>(pv 9))) Y4 (fun _ _=>rfl)))
 (YY (ps_for PassesOwn.never rfl (ZbR (pv 4)) (gN 3 Zr.nd) (YZ (ps_asg (C8.pe_c bc hr (by omega) rfl (YT (ZfU hr.units (pv 6) (pv 3) (fun _ _=>rfl)) (YT (Za (YT (pv 8) (YT (pv 1) YX))) (YT (pv 2) YX)))) (pg_sub (pv 6) (pv 3) (Zfg hr.units)))))
 (YZ (Y9 (Za (YT (pv 4) (YT (pv 5) (YT (pv 6) (YT (pv 7) (YT (pv 8) (YT (pv 1) YX))))))))))))))
theorem Z7:Xc ["_law_program_here", "_law_target", "_law_old", "_law_new", "_law_told", "error"] ["_law_program_here", "_law_target", "_law_old", "_law_new"] (YW Z5):=⟨rfl,rfl,rfl,by decide +kernel,rfl,by decide +kernel,by decide +kernel⟩
theorem Zhh{CP CU CI CC CL:YF}(T:Zsv K CU CI CC CL){f:YF}{fd:YE}(F:FunD K "_law_refused" "_law_refused" (Y3 Z5) (Y2 Z5) (YW Z5) [] [] f fd) (B:Blt mg) (bi:ZqZ P w K mg base 22 "renamed" (ZbM K CP CU CI CC)) (bd:mg "UnknownModule" = some (.ref CU)) (b9:XfC K CU) (b3:PySem.W.findIn K (.ref CU) "module" = some none) (bh:mg "InvalidName" = some (.ref CI)) (bg:ExcC K CI) (b8:∃ u,mg "LinkError" = some u∧RelV (.ref CL) u) (bf:mg "CannotRename" = some (.ref CC)) (bc:ExcC K CC):Xn P w K mg base CX0 (22 + 1) f fd ["_law_program_here", "_law_target", "_law_old", "_law_new"] (Zz K CP):=by
 refine F.ok Z7 (fun vs H Q E h=>by obtain⟨_,_,_,_,_,_,rfl,_⟩:=h; rfl) (fun cdv A outer s H vs Q E hr h=>⟨Zcf K CP CU CI CC CL (fun _ _ _ _=>False),?_,Zf_ T vs H Q E h⟩)
 have tk:L2N.Takes (cxOf CX0 P w K mg base ["_law_program_here", "_law_target", "_law_old", "_law_new", "_law_told", "error"] "_law_refused" (YW Z5) f cdv A outer s H E) (fun _ _ _ _=>False):=takes0
 have tc:Zmi (cxOf CX0 P w K mg base ["_law_program_here", "_law_target", "_law_old", "_law_new", "_law_told", "error"] "_law_refused" (YW Z5) f cdv A outer s H E):=ZsX
 exact(YY (sN 4 Z7.nd pe_non)
 (YY (ZnY (tb:=fun W:WX=>(Xp (tCallS (ZbM K CP CU CI CC) (WE W) (YV (YU 0) (YV (YU 1) (YV (YU 2) (YV (YU 3) Y1))))))) tc (fun W pn xe tk po=>(YZ (Xf (Zr5 bi tk hr (by omega) rfl (YT (pv 0) (YT (pv 1) (YT (pv 2) (YT (pv 3) YX)))))))) (ZnX tc Z7.nd rfl rfl ⟨rfl,rfl,.inl bf⟩ (fun a T oe oT cls d pins F=>(YZ (sN 4 Z7.nd (pe_ifExp (pt_val (Xr (Zj9 bc F) rfl B.isinstance Zbu (YT (pv 5) (YT (C8.pe_gc rfl b8) YX)))) Y5 Y5)))) (ZnX tc Z7.nd rfl rfl ⟨rfl,rfl,.inl bh⟩ (fun a T oe oT cls d pins F=>(YZ (sN 4 Z7.nd (pe_ifExp (pt_val (Xr (Zj9 bg F) rfl B.isinstance Zbu (YT (pv 5) (YT (C8.pe_gc rfl b8) YX)))) Y5 Y5)))) (ZnX tc Z7.nd rfl rfl ⟨rfl,rfl,.inl bd⟩ (fun a T oe oT cls d pins F=>(YZ (sN 4 Z7.nd (ZpY b9 b3 F (pv 5))))) (ZpO tc tk)))))
 (YZ (Y9 (pv 4)))))
theorem Zcg:Xc ["_law_h", "_law_target", "_law_old", "_law_new", "_law_free", "_law_kind", "_law_both", "_law_first", "_law_second"] ["_law_h", "_law_target", "_law_old", "_law_new", "_law_free"] (YW ZaE):=⟨rfl,rfl,rfl,by decide +kernel,rfl,by decide +kernel,by decide +kernel⟩
theorem Zij{f:YF}{fd:YE}(F:FunD K "_law_reason" "_law_reason" (Y3 ZaE) (Y2 ZaE) (YW ZaE) [] [] f fd) (B:Blt mg) (b3:C8.Cal P w K mg base 1 "_law_next" (Zd K) []):Xn P w K mg base CX0 (1 + 1) f fd ["_law_h", "_law_target", "_law_old", "_law_new", "_law_free"] (ZbA K):=by
 refine F.ok Zcg (fun vs H Q E h=>by obtain⟨_,_,_,_,_,_,rfl,_⟩:=h; rfl) (fun cdv A outer s H vs Q E hr h=>⟨ZcB K ,PSs.nox (?_),ZgW vs H Q E h⟩)
 exact(YY (ps_par rfl Zcg.nd rfl rfl (by decide) rfl rfl (YT (C8.pe_c b3 hr (by omega) rfl (YT (pv 0) (YT Y4 YX))) (YT (Xg Y7 (ZI (YT (pv 2) (YT (pv 3) YX))) (C8.pe_c b3 hr (by omega) rfl (YT (pv 0) (YT Y4 YX))) (fun _ _=>rfl)) YX)) (by rfl))
 (YY (ps_if (Y8 op_lt (pv 5) Y4 (Xd _)) (YZ (Y9 (Xg Y7 (ZI (YT (Za (YT (Za (YT Y5 (YT (pv 1) YX))) (YT pe_bl (YT pe_bl YX)))) (YT (Za (YT (Za (YT Y5 (YT (Za (YT Y5 (YT (pv 4) (YT (pv 6) YX)))) YX))) (YT pe_bl (YT pe_bl YX)))) (YT (Za (YT (Za (YT Y5 (YT (Za (YT Y5 (YT Y4 (YT (Za (YT Y5 (YT (Za (YT Y5 (YT (pv 4) (YT (pv 6) YX)))) (YT Y4 YX)))) YX)))) (YT (Za YX) (YT (Za YX) YX))))) (YT pe_bl (YT pe_bl YX)))) YX)))) (pv 5) (fun _ _=>rfl)))) Y0)
 (YY (ps_if (Y8 op_lt (pv 5) Y4 (Xd _)) (YY (sN 7 Zcg.nd (ZI (YT (Za (YT Y5 (YT (pv 3) (YT Y4 YX)))) (YT (Za (YT Y5 (YT (pv 3) YX))) (YT (Za (YT Y5 (YT (pv 3) (YT (Za YX) YX)))) (YT (Za (YT Y5 (YT (pv 1) (YT (pv 3) YX)))) YX))))))
 (YY (sN 8 Zcg.nd (ZI (YT (Za (YT Y5 (YT (Za (YT Y5 (YT (pv 3) YX))) YX))) (YT (Za (YT Y5 (YT (Za (YT Y5 (YT (pv 3) (YT (pv 4) YX)))) YX))) YX))))
 (YY (Xf (pe_bm PySem.F.plainAttrs_list PySem.F.slot_list_append PySem.F.type_list_append mt_append (pv 8) (YT (Za (YT Y5 (YT (pv 4) (YT (Za (YT Y5 (YT Y4 (YT (Za (YT Y5 (YT (pv 3) YX))) YX)))) YX)))) YX)))
 (YZ (Y9 (Za (YT (Xg Y7 (pe_op Zae (pv 7) (pv 8)) (pe_op op_sub (pv 5) Y4) (fun _ _=>rfl)) (YT pe_bl (YT pe_bl YX))))))))) Y0)
 (YY (ps_if (Y8 (Zab hr.units) (pv 5) Y4 (Xd _)) (YZ (Y9 (Za (YT (Za (YT Y5 (YT (pv 1) (YT (pv 3) (YT (pv 4) YX))))) (YT pe_bl (YT pe_bl YX)))))) Y0)
 (YY (ps_if (Y8 (Zab hr.units) (pv 5) Y4 (Xd _)) (YZ (Y9 (Za (YT (Za (YT Y5 (YT (pv 1) (YT (pv 4) (YT (pv 3) YX))))) (YT pe_bl (YT pe_bl YX)))))) Y0)
 (YZ (Y9 (Za (YT (Za (YT Y5 (YT (Za (YT Y5 (YT (pv 4) (YT (pv 4) YX)))) YX))) (YT pe_bl (YT pe_bl YX)))))))))))
theorem Zav:Xc ["_law_script", "_law_h", "_law_turn", "_law_free", "_law_made", "_law_bad", "_law_module", "_law_where", "_law_at", "_law_other", "_law_apart", "_law_last", "_law_told", "_law_modules", "_law_names_here", "_law_program_here", "_law_target", "_law_old", "_law_new", "_law_row", "_law_own", "_law_reason_here", "_law_each"] ["_law_script"] (YW Zix):=⟨rfl,rfl,rfl,by decide +kernel,rfl,by decide +kernel,by decide +kernel⟩
theorem ZqL{CP:YF}{f:YF}{fd:YE}(F:FunD K "law" "law" (Y3 Zix) (Y2 Zix) (YW Zix) [] [] f fd) (B:Blt mg) (b8:C8.Mak P w K mg base 14 "Program" CP (Zi K CP) []) (b3:C8.Cal P w K mg base 23 "_law_refused" (Zz K CP) []) (b9:C8.Cal P w K mg base 1 "_law_next" (Zd K) []) (bd:C8.Cal P w K mg base 2 "_law_reason" (ZbA K) []) (bc:C8.Cal P w K mg base 20 "_law_renamable" (Zat K) []) (bf:C8.Cal P w K mg base 1 "_law_mix" (ZcM K) []):Xn P w K mg base CX0 (215 + 1) f fd ["_law_script"] (Zkr K):=by
 refine F.ok Zav (fun vs H Q E h=>by obtain⟨_,_,rfl,_⟩:=h; rfl) (fun cdv A outer s H vs Q E hr h=>⟨Zm8 K CP,PSs.nox (?_),Zm_ vs H Q E h⟩)
 exact(YY (sN 1 Zav.nd (C8.pe_c bf hr (by omega) rfl (YT (pv 0) (YT Y4 YX))))
 (YY (ps_for PassesOwn.never rfl (pi_range1 rfl B.range (YT Y4 YX)) (gN 2 Zav.nd) (YY (ps_asg (C8.pe_c bc hr (by omega) rfl (YT (pv 1) YX)) (pg_tup rfl (pgs_cons (gN 13 Zav.nd) (pgs_cons (gN 14 Zav.nd) (pgs_cons (gN 15 Zav.nd) (pgs_cons (gN 16 Zav.nd) (pgs_cons (gN 17 Zav.nd) (pgs_cons (gN 18 Zav.nd) pgs_nil))))))))
 (YY (sN 3 Zav.nd (Xg Y7 (pe_lc (own:=[("_law_each",22)]) (g:=(Y6 22)) (tt:=(Xe (tOp (ZbD K) (YU 22) (Zf K (YV (YU 17) (YV (YU 18) Y1)))))) rfl Zav.nd (ZbR (ZI (YT Y5 (YT Y5 (YT Y5 YX))))) (blkOk_by (N:=["_law_script", "_law_h", "_law_turn", "_law_free", "_law_made", "_law_bad", "_law_module", "_law_where", "_law_at", "_law_other", "_law_apart", "_law_last", "_law_told", "_law_modules", "_law_names_here", "_law_program_here", "_law_target", "_law_old", "_law_new", "_law_row", "_law_own", "_law_reason_here", "_law_each"]) (sc:=YW Zix) (by decide +kernel)) (fun _ _ _ _ _=>(gN 22 Zav.nd)) (fun _ _ _ _ _=>(pts_one (Y8 Zdz (pv 22) (Za (YT (pv 17) (YT (pv 18) YX))) rfl))) (fun _ _ _ _ _=>(pv 22))) Y4 (fun _ _=>rfl)))
 (YY (sN 4 Zav.nd (C8.pe_mk b8 hr (by omega) rfl (YT (pe_callTy (ZgN rfl) rfl B.dict Zjc (YT (pv 15) YX)) YX)))
 (YY (ps_if (Y8 op_notN1 (C8.pe_c b3 hr (by omega) rfl (YT (pv 4) (YT (pv 16) (YT (pv 17) (YT (pv 18) YX))))) pe_non (Xd _)) (YZ (Y9 pe_bl)) Y0)
 (YY (ps_if (Y8 (Zik hr.units) (C8.pe_c b3 hr (by omega) rfl (YT (pv 4) (YT Y5 (YT (pv 17) (YT Y5 YX))))) Y5 (Xd _)) (YZ (Y9 pe_bl)) Y0)
 (YY (sN 5 Zav.nd (Xg Y7 (ZI (YT Y5 (YT Y5 (YT Y5 (YT Y5 (YT Y5 YX)))))) (C8.pe_c b9 hr (by omega) rfl (YT (pv 1) (YT Y4 YX))) (fun _ _=>rfl)))
 (YY (ps_if (Y8 (Zik hr.units) (C8.pe_c b3 hr (by omega) rfl (YT (pv 4) (YT (pv 16) (YT (pv 17) (YT (pv 5) YX))))) Y5 (Xd _)) (YZ (Y9 pe_bl)) Y0)
 (YY (ps_asg (C8.pe_c bd hr (by omega) rfl (YT (pv 1) (YT (pv 16) (YT (pv 17) (YT (pv 18) (YT (pv 3) YX)))))) (pg_tup rfl (pgs_cons (gN 19 Zav.nd) (pgs_cons (gN 20 Zav.nd) (pgs_cons (gN 21 Zav.nd) pgs_nil)))))
 (YY (sN 6 Zav.nd (pe_ifExp (pt_val (pv 20)) (pv 16) (Xg Y7 (pv 13) (C8.pe_c b9 hr (by omega) rfl (YT (pv 1) (YT (Xr Zcj rfl B.len Zci (YT (pv 13) YX)) YX))) (fun _ _=>rfl))))
 (YY (sN 7 Zav.nd (C8.pe_c b9 hr (by omega) rfl (YT (pv 1) (YT Y4 YX))))
 (YY (ps_if (Y8 op_gt (pv 7) Y4 (Xd _)) (YZ (sN 19 Zav.nd (pe_ifExp (Y8 (Zab hr.units) (pv 7) Y4 (Xd _)) (Za (YT Y5 (YT Y4 (YT (Za YX) (YT (Za (YT (pv 19) YX)) YX))))) (Za (YT Y5 (YT (pv 3) (YT (Za (YT (pv 19) YX)) YX))))))) Y0)
 (YY (sN 8 Zav.nd (C8.pe_c b9 hr (by omega) rfl (YT (pv 1) (YT (pe_op Zae (Xr Zcj rfl B.len Zci (YT (ZfU hr.units (pv 15) (pv 6) (fun _ _=>rfl)) YX)) Y4) YX))))
 (YY (sN 9 Zav.nd (pe_callTy (ZgN rfl) rfl B.dict Zjc (YT (pv 15) YX)))
 (YY (ps_asg (pe_op Zae (pe_op Zae (pe_slice sl_tupA (ZfU hr.units (pv 15) (pv 6) (fun _ _=>rfl)) po_none (po_some (pv 8))) (Za (YT (pv 19) YX))) (pe_slice sl_tupA (ZfU hr.units (pv 15) (pv 6) (fun _ _=>rfl)) (po_some (pv 8)) po_none)) (pg_sub (pv 9) (pv 6) (Zfg hr.units)))
 (YY (ps_if (Y8 (Zik hr.units) (C8.pe_c b3 hr (by omega) rfl (YT (C8.pe_mk b8 hr (by omega) rfl (YT (pv 9) YX)) (YT (pv 16) (YT (pv 17) (YT (pv 18) YX))))) (pe_ifExp (pt_val (pv 21)) Y5 pe_non) (Xd _)) (YZ (Y9 pe_bl)) Y0)
 (YY (ps_if (Y8 op_notN1 (C8.pe_c b3 hr (by omega) rfl (YT (C8.pe_mk b8 hr (by omega) rfl (YT (pv 9) YX)) (YT (pv 16) (YT (pv 18) (YT (pv 18) YX))))) pe_non (Xd _)) (YZ (Y9 pe_bl)) Y0)
 (YY (ps_if (Y8 (Zik hr.units) (C8.pe_c b3 hr (by omega) rfl (YT (C8.pe_mk b8 hr (by omega) rfl (YT (pv 9) YX)) (YT (pv 16) (YT (pv 17) (YT Y5 YX))))) Y5 (Xd _)) (YZ (Y9 pe_bl)) Y0)
 (YY (sN 10 Zav.nd (pe_callTy (ZgN rfl) rfl B.dict Zjc (YT (pv 15) YX)))
 (YY (sN 11 Zav.nd (Za (YT Y5 (YT (Za (YT Y5 (YT (pv 18) (YT (pv 3) YX)))) YX))))
 (YY (ps_asg (Za (YT (Za (YT Y5 (YT (pv 18) (YT Y4 YX)))) (YT (Za (YT Y5 (YT (pv 17) (YT (Za (YT (Za (YT Y5 (YT (pv 18) YX))) YX)) YX)))) (YT (pv 11) YX)))) (pg_sub (pv 10) Y5 (Zfg hr.units)))
 (YY (sN 12 Zav.nd (pe_ifExp (pt_cmp (Zlf hr.units Y5 (pv 15))) pe_non (C8.pe_c b3 hr (by omega) rfl (YT (C8.pe_mk b8 hr (by omega) rfl (YT (pv 10) YX)) (YT (pv 16) (YT (pv 17) (YT (pv 18) YX)))))))
 (YZ (ps_if (Y8 op_notN1 (pv 12) pe_non (Xd _)) (YZ (Y9 pe_bl)) Y0))))))))))))))))))))))))
 (YZ (Y9 pe_bl))))
end
end M
namespace M
open PySem PySem.Spec PyProof.Rows L2 L2H SlX
section
variable {P:YG} {w:YH} {K:YC} {mg:Str→Option YI} {base:Heap} {k k':Nat} {C f:YF} {fd:YE} {ps:List Str} {m x:Str} {sp:Sp}
theorem Zj3(cl:Cls K C)(h:Meth K C m f)(F:Xn P w K mg base CX0 k f fd ps sp)(b:Binds K fd ps []):C8.Met P w K mg base k C m sp []:=⟨⟨f,fd,ps,[],cl,h,F,b,.nil⟩⟩
theorem ZqM(h:Mk K C f)(hm:mg x=some (.ref C))(F:Xn P w K mg base CX0 k f fd ps sp)(b:Binds K fd ps []):C8.Mak P w K mg base k x C sp []:=⟨⟨f,fd,ps,[],h,F,hm,b,.nil⟩⟩
end
theorem ZqN{P:YG}{w:YH}{K:YC}{mg:Str→Option YI}{base:Heap}{k:Nat}{x:Str}{f:YF}{fd:YE}{ps:List Str}{sp:Sp}(F:Xn P w K mg base (L2N.CX P w) k f fd ps sp)(hm:mg x=some (.ref f))(kp:PySem.W.keepIn K (.ref f)=true)(b:Binds K fd ps []):ZqZ P w K mg base k x sp:=⟨⟨f,fd,ps,F,hm,kp,b⟩⟩
theorem ZqO{K:YC}:∀ vs H Q E,¬ Zg K 0 vs H Q E:=by
 rintro vs H Q E ⟨v,e,ops,_,_,_,h,h3,_⟩
 omega
theorem ZsP{K:YC}:∀ vs H Q E,¬ Zq K 0 vs H Q E:=by
 rintro vs H Q E ⟨v,bv,b,base,_,_,_,h,_⟩
 exact absurd h (Nat.not_lt_zero _)
theorem ZqP{K:YC}:∀ vs H Q E,¬ ZN K 0 vs H Q E:=by
 rintro vs H Q E ⟨h,c,nl,names,d,_,_,_,h0,h1,_⟩
 omega
theorem ZqQ{K:YC}:∀ vs H Q E,¬ Z0 K 0 vs H Q E:=by
 rintro vs H Q E ⟨h,c,ml,nl,ms,ns,d,_,_,h0,h1,_⟩
 omega
theorem ZsQ{K:YC}:∀ vs H Q E,¬ ZaO K 0 vs H Q E:=by
 rintro vs H Q E ⟨v,e,_,_,h,_⟩
 omega
theorem ZqR{K:YC}{CN:YF}:∀ vs H Q E,¬ Zh K CN 0 vs H Q E:=by
 rintro vs H Q E ⟨a,dx,r,m,v,e,_,_,_,h,_⟩
 omega
theorem ZqS{K:YC}{CN:YF}:∀ vs H Q E,¬ ZC K CN 0 vs H Q E:=by
 rintro vs H Q E ⟨a,dx,r,m,v,e,_,_,_,_,_,h,_⟩
 omega
theorem ZqT{K:YC}:∀ vs H Q E,¬ Zl K 0 vs H Q E:=by
 rintro vs H Q E ⟨v,e,lc,lost,o,_,_,_,h,_⟩
 omega
theorem ZqU{K:YC}:∀ vs H Q E,¬ ZM K 0 vs H Q E:=by
 rintro vs H Q E ⟨v,b,lc,lost,o,_,_,_,_,_,h,_⟩
 omega
theorem facts{w:YH}{K:YC}{h:Heap}{mg:Str→Option YI}{f:YF}(X:K.In h)(G:h.Ns mainGlobals mg)(hfa:mg ("law" : Str)=some (.ref f)) (c:Zll fa fn ts su pr ex w K) :
  ∃ fd:YE,(∀ (s:YJ) (v:YI),BindsTo s fd ⟨[v],[]⟩ [("_law_script",v)])∧∀ base:Heap,K.In base→base.Ns mainGlobals mg→Xn PP w K mg base CX0 216 f fd ["_law_script"] (Zkr K):=by
 obtain⟨fd_is_integer,F_is_integer⟩:=c.t.d.def_ 0 (d:=ZfV) rfl
 have cV:=He.glo_ok X G (c.t.d.fact 0 (f:=.glo "is_integer") rfl)
 have cW:Binds K fd_is_integer ["value"] []:=F_is_integer.bindsN fun _ _ _ _ _ _ us hl=>match us,hl with | [_],_=>rfl
 obtain⟨fd_is_name,F_is_name⟩:=c.t.d.def_ 1 (d:=Ziy) rfl
 have dS:=He.glo_ok X G (c.t.d.fact 1 (f:=.glo "is_name") rfl)
 have dR:Binds K fd_is_name ["text"] []:=F_is_name.bindsN fun _ _ _ _ _ _ us hl=>match us,hl with | [_],_=>rfl
 obtain⟨fd_blocks_of,F_blocks_of⟩:=c.t.d.def_ 2 (d:=Zgu) rfl
 have dg:=He.glo_ok X G (c.t.d.fact 2 (f:=.glo "blocks_of") rfl)
 have d6:Binds K fd_blocks_of ["statement"] []:=F_blocks_of.bindsN fun _ _ _ _ _ _ us hl=>match us,hl with | [_],_=>rfl
 obtain⟨fd_names_of,F_names_of⟩:=c.t.d.def_ 3 (d:=Zhj) rfl
 have dL:=He.glo_ok X G (c.t.d.fact 3 (f:=.glo "names_of") rfl)
 have dq:Binds K fd_names_of ["statement"] []:=F_names_of.bindsN fun _ _ _ _ _ _ us hl=>match us,hl with | [_],_=>rfl
 obtain⟨fd_expressions_of,F_expressions_of⟩:=c.t.d.def_ 4 (d:=Zdn) rfl
 have ce:=He.glo_ok X G (c.t.d.fact 4 (f:=.glo "expressions_of") rfl)
 have cf:Binds K fd_expressions_of ["statement"] []:=F_expressions_of.bindsN fun _ _ _ _ _ _ us hl=>match us,hl with | [_],_=>rfl
 obtain⟨fd_statements_in,F_statements_in⟩:=c.t.d.def_ 5 (d:=ZdA) rfl
 have bE:=He.glo_ok X G (c.t.d.fact 5 (f:=.glo "statements_in") rfl)
 have bF:Binds K fd_statements_in ["block", "base"] []:=F_statements_in.bindsN fun _ _ _ _ _ _ us hl=>match us,hl with | [_,_],_=>rfl
 obtain⟨fd_depth_of,F_depth_of⟩:=c.t.d.def_ 6 (d:=Zhk) rfl
 have dz:=He.glo_ok X G (c.t.d.fact 6 (f:=.glo "depth_of") rfl)
 have dE:Binds K fd_depth_of ["path"] []:=F_depth_of.bindsN fun _ _ _ _ _ _ us hl=>match us,hl with | [_],_=>rfl
 obtain⟨fd_is_valid_expression,F_is_valid_expression⟩:=c.t.d.def_ 7 (d:=ZbU) rfl
 have b8:=He.glo_ok X G (c.t.d.fact 7 (f:=.glo "is_valid_expression") rfl)
 have b9:Binds K fd_is_valid_expression ["expr", "operators"] []:=F_is_valid_expression.bindsN fun _ _ _ _ _ _ us hl=>match us,hl with | [_,_],_=>rfl
 obtain⟨fd_is_valid_statement,F_is_valid_statement⟩:=c.t.d.def_ 8 (d:=Zb4) rfl
 have bH:=He.glo_ok X G (c.t.d.fact 8 (f:=.glo "is_valid_statement") rfl)
 have bL:Binds K fd_is_valid_statement ["path", "statement"] []:=F_is_valid_statement.bindsN fun _ _ _ _ _ _ us hl=>match us,hl with | [_,_],_=>rfl
 obtain⟨fd_first_fault,F_first_fault⟩:=c.t.d.def_ 9 (d:=Zfi) rfl
 have cM:=He.glo_ok X G (c.t.d.fact 9 (f:=.glo "first_fault") rfl)
 have cK:Binds K fd_first_fault ["index", "name", "block"] []:=F_first_fault.bindsN fun _ _ _ _ _ _ us hl=>match us,hl with | [_,_,_],_=>rfl
 obtain⟨fd_read_in,F_read_in⟩:=c.t.d.def_ 10 (d:=Ziz) rfl
 have cS:=He.glo_ok X G (c.t.d.fact 10 (f:=.glo "read_in") rfl)
 have cU:Binds K fd_read_in ["expr"] []:=F_read_in.bindsN fun _ _ _ _ _ _ us hl=>match us,hl with | [_],_=>rfl
 obtain⟨fd_places_of,F_places_of⟩:=c.t.d.def_ 11 (d:=Zgv) rfl
 have dh:=He.glo_ok X G (c.t.d.fact 11 (f:=.glo "places_of") rfl)
 have df:Binds K fd_places_of ["module", "statement"] []:=F_places_of.bindsN fun _ _ _ _ _ _ us hl=>match us,hl with | [_,_],_=>rfl
 obtain⟨fd_can_rename,F_can_rename⟩:=c.t.d.def_ 12 (d:=ZfW) rfl
 have cZ:=He.glo_ok X G (c.t.d.fact 12 (f:=.glo "can_rename") rfl)
 have d5:Binds K fd_can_rename ["program", "target", "old", "new"] []:=F_can_rename.bindsN fun _ _ _ _ _ _ us hl=>match us,hl with | [_,_,_,_],_=>rfl
 obtain⟨fd_renamed,F_renamed⟩:=c.t.d.def_ 13 (d:=ZiA) rfl
 have dQ:=He.glo_ok X G (c.t.d.fact 13 (f:=.glo "renamed") rfl)
 have dU:Binds K fd_renamed ["program", "module", "old", "new"] []:=F_renamed.bindsN fun _ _ _ _ _ _ us hl=>match us,hl with | [_,_,_,_],_=>rfl
 obtain⟨fd_law_mix,F_law_mix⟩:=c.t.d.def_ 14 (d:=ZiB) rfl
 have dP:=He.glo_ok X G (c.t.d.fact 14 (f:=.glo "_law_mix") rfl)
 have dX:Binds K fd_law_mix ["_law_script", "_law_seed"] []:=F_law_mix.bindsN fun _ _ _ _ _ _ us hl=>match us,hl with | [_,_],_=>rfl
 obtain⟨fd_law_next,F_law_next⟩:=c.t.d.def_ 15 (d:=Zhl) rfl
 have dG:=He.glo_ok X G (c.t.d.fact 15 (f:=.glo "_law_next") rfl)
 have du:Binds K fd_law_next ["_law_h", "_law_cap"] []:=F_law_next.bindsN fun _ _ _ _ _ _ us hl=>match us,hl with | [_,_],_=>rfl
 obtain⟨fd_law_name,F_law_name⟩:=c.t.d.def_ 16 (d:=Zhm) rfl
 have dy:=He.glo_ok X G (c.t.d.fact 16 (f:=.glo "_law_name") rfl)
 have dB:Binds K fd_law_name ["_law_h"] []:=F_law_name.bindsN fun _ _ _ _ _ _ us hl=>match us,hl with | [_],_=>rfl
 obtain⟨fd_law_names,F_law_names⟩:=c.t.d.def_ 17 (d:=Zgw) rfl
 have d7:=He.glo_ok X G (c.t.d.fact 17 (f:=.glo "_law_names") rfl)
 have d9:Binds K fd_law_names ["_law_h", "_law_many"] []:=F_law_names.bindsN fun _ _ _ _ _ _ us hl=>match us,hl with | [_,_],_=>rfl
 obtain⟨fd_law_integer,F_law_integer⟩:=c.t.d.def_ 18 (d:=Zfj) rfl
 have cO:=He.glo_ok X G (c.t.d.fact 18 (f:=.glo "_law_integer") rfl)
 have cL:Binds K fd_law_integer ["_law_h"] []:=F_law_integer.bindsN fun _ _ _ _ _ _ us hl=>match us,hl with | [_],_=>rfl
 obtain⟨fd_law_expr,F_law_expr⟩:=c.t.d.def_ 19 (d:=Zhn) rfl
 have cI:=He.glo_ok X G (c.t.d.fact 19 (f:=.glo "_law_expr") rfl)
 have cE:Binds K fd_law_expr ["_law_h", "_law_names_here", "_law_depth"] []:=F_law_expr.bindsN fun _ _ _ _ _ _ us hl=>match us,hl with | [_,_,_],_=>rfl
 obtain⟨fd_law_load,F_law_load⟩:=c.t.d.def_ 20 (d:=Zho) rfl
 have dJ:=He.glo_ok X G (c.t.d.fact 20 (f:=.glo "_law_load") rfl)
 have dw:Binds K fd_law_load ["_law_h", "_law_modules", "_law_names_here"] []:=F_law_load.bindsN fun _ _ _ _ _ _ us hl=>match us,hl with | [_,_,_],_=>rfl
 obtain⟨fd_law_statement,F_law_statement⟩:=c.t.d.def_ 21 (d:=ZdB) rfl
 have bB:=He.glo_ok X G (c.t.d.fact 21 (f:=.glo "_law_statement") rfl)
 have bC:Binds K fd_law_statement ["_law_h", "_law_modules", "_law_names_here", "_law_depth"] []:=F_law_statement.bindsN fun _ _ _ _ _ _ us hl=>match us,hl with | [_,_,_,_],_=>rfl
 obtain⟨fd_law_rows,F_law_rows⟩:=c.t.d.def_ 22 (d:=Zhp) rfl
 have cD:=He.glo_ok X G (c.t.d.fact 22 (f:=.glo "_law_rows") rfl)
 have cH:Binds K fd_law_rows ["_law_h", "_law_modules", "_law_names_here", "_law_depth", "_law_most"] []:=F_law_rows.bindsN fun _ _ _ _ _ _ us hl=>match us,hl with | [_,_,_,_,_],_=>rfl
 obtain⟨fd_law_first_rows,F_law_first_rows⟩:=c.t.d.def_ 23 (d:=Zdo) rfl
 have bY:=He.glo_ok X G (c.t.d.fact 23 (f:=.glo "_law_first_rows") rfl)
 have bZ:Binds K fd_law_first_rows ["_law_h", "_law_modules", "_law_names_here"] []:=F_law_first_rows.bindsN fun _ _ _ _ _ _ us hl=>match us,hl with | [_,_,_],_=>rfl
 obtain⟨fd_law_program,F_law_program⟩:=c.t.d.def_ 24 (d:=Zfk) rfl
 have cJ:=He.glo_ok X G (c.t.d.fact 24 (f:=.glo "_law_program") rfl)
 have cQ:Binds K fd_law_program ["_law_h", "_law_most"] []:=F_law_program.bindsN fun _ _ _ _ _ _ us hl=>match us,hl with | [_,_],_=>rfl
 obtain⟨fd_law_plain_expr,F_law_plain_expr⟩:=c.t.d.def_ 25 (d:=Zdp) rfl
 have bu:=He.glo_ok X G (c.t.d.fact 25 (f:=.glo "_law_plain_expr") rfl)
 have bx:Binds K fd_law_plain_expr ["_law_expr_here", "_law_lost", "_law_other"] []:=F_law_plain_expr.bindsN fun _ _ _ _ _ _ us hl=>match us,hl with | [_,_,_],_=>rfl
 obtain⟨fd_law_plain,F_law_plain⟩:=c.t.d.def_ 26 (d:=Zgx) rfl
 have cx:=He.glo_ok X G (c.t.d.fact 26 (f:=.glo "_law_plain") rfl)
 have cw:Binds K fd_law_plain ["_law_block", "_law_lost", "_law_other"] []:=F_law_plain.bindsN fun _ _ _ _ _ _ us hl=>match us,hl with | [_,_,_],_=>rfl
 obtain⟨fd_law_fresh,F_law_fresh⟩:=c.t.d.def_ 27 (d:=Zgy) rfl
 have dc:=He.glo_ok X G (c.t.d.fact 27 (f:=.glo "_law_fresh") rfl)
 have de:Binds K fd_law_fresh ["_law_h", "_law_names_here"] []:=F_law_fresh.bindsN fun _ _ _ _ _ _ us hl=>match us,hl with | [_,_],_=>rfl
 obtain⟨fd_law_renamable,F_law_renamable⟩:=c.t.d.def_ 28 (d:=ZdC) rfl
 have cA:=He.glo_ok X G (c.t.d.fact 28 (f:=.glo "_law_renamable") rfl)
 have cy:Binds K fd_law_renamable ["_law_h"] []:=F_law_renamable.bindsN fun _ _ _ _ _ _ us hl=>match us,hl with | [_],_=>rfl
 obtain⟨fd_law_refused,F_law_refused⟩:=c.t.d.def_ 29 (d:=Zfl) rfl
 have cP:=He.glo_ok X G (c.t.d.fact 29 (f:=.glo "_law_refused") rfl)
 have cR:Binds K fd_law_refused ["_law_program_here", "_law_target", "_law_old", "_law_new"] []:=F_law_refused.bindsN fun _ _ _ _ _ _ us hl=>match us,hl with | [_,_,_,_],_=>rfl
 obtain⟨fd_law_reason,F_law_reason⟩:=c.t.d.def_ 30 (d:=ZfX) rfl
 have d3:=He.glo_ok X G (c.t.d.fact 30 (f:=.glo "_law_reason") rfl)
 have d4:Binds K fd_law_reason ["_law_h", "_law_target", "_law_old", "_law_new", "_law_free"] []:=F_law_reason.bindsN fun _ _ _ _ _ _ us hl=>match us,hl with | [_,_,_,_,_],_=>rfl
 obtain⟨fd_law,F_law⟩:=c.t.d.def_ 31 (d:=Zp5) rfl
 have et:=He.glo_ok X G (c.t.d.fact 31 (f:=.glo "law") rfl)
 have fk:Binds K fd_law ["_law_script"] []:=F_law.bindsN fun _ _ _ _ _ _ us hl=>match us,hl with | [_],_=>rfl
 obtain⟨fd_Program___init__,F_Program___init__⟩:=c.t.d.def_ 32 (d:=Zcy) rfl
 have bU:Binds K fd_Program___init__ ["self", "modules"] []:=F_Program___init__.bindsN fun _ _ _ _ _ _ us hl=>match us,hl with | [_,_],_=>rfl
 have dH:=He.meth_ok (c.t.d.fact 56 (f:=.meth "Program" "__init__") rfl)
 obtain⟨fd_Program___getitem__,F_Program___getitem__⟩:=c.t.d.def_ 33 (d:=ZbV) rfl
 have bG:Binds K fd_Program___getitem__ ["self", "at"] []:=F_Program___getitem__.bindsN fun _ _ _ _ _ _ us hl=>match us,hl with | [_,_],_=>rfl
 have bc:=He.meth_ok (c.t.d.fact 57 (f:=.meth "Program" "__getitem__") rfl)
 obtain⟨fd_Program___contains__,F_Program___contains__⟩:=c.t.d.def_ 34 (d:=ZbC) rfl
 have bz:Binds K fd_Program___contains__ ["self", "x"] []:=F_Program___contains__.bindsN fun _ _ _ _ _ _ us hl=>match us,hl with | [_,_],_=>rfl
 have b3:=He.meth_ok (c.t.d.fact 58 (f:=.meth "Program" "__contains__") rfl)
 obtain⟨fd_Program_all_names,F_Program_all_names⟩:=c.t.d.def_ 35 (d:=Zcn) rfl
 have bQ:Binds K fd_Program_all_names ["self"] []:=F_Program_all_names.bindsN fun _ _ _ _ _ _ us hl=>match us,hl with | [_],_=>rfl
 have bO:=He.meth_ok (c.t.d.fact 59 (f:=.meth "Program" "all_names") rfl)
 obtain⟨fd_Program_each_statement,F_Program_each_statement⟩:=c.t.d.def_ 36 (d:=Zbp) rfl
 have bq:Binds K fd_Program_each_statement ["self"] []:=F_Program_each_statement.bindsN fun _ _ _ _ _ _ us hl=>match us,hl with | [_],_=>rfl
 have bp:=He.meth_ok (c.t.d.fact 60 (f:=.meth "Program" "each_statement") rfl)
 obtain⟨fd_Renamer___init__,F_Renamer___init__⟩:=c.t.d.def_ 37 (d:=Zcz) rfl
 have bS:Binds K fd_Renamer___init__ ["self", "target", "old", "new"] []:=F_Renamer___init__.bindsN fun _ _ _ _ _ _ us hl=>match us,hl with | [_,_,_,_],_=>rfl
 have dC:=He.meth_ok (c.t.d.fact 61 (f:=.meth "Renamer" "__init__") rfl)
 obtain⟨fd_Renamer_called,F_Renamer_called⟩:=c.t.d.def_ 38 (d:=Zdq) rfl
 have cb:Binds K fd_Renamer_called ["self", "module", "name"] []:=F_Renamer_called.bindsN fun _ _ _ _ _ _ us hl=>match us,hl with | [_,_,_],_=>rfl
 have ci:=He.meth_ok (c.t.d.fact 62 (f:=.meth "Renamer" "called") rfl)
 obtain⟨fd_Renamer_expression,F_Renamer_expression⟩:=c.t.d.def_ 39 (d:=Zb5) rfl
 have bf:Binds K fd_Renamer_expression ["self", "module", "expr"] []:=F_Renamer_expression.bindsN fun _ _ _ _ _ _ us hl=>match us,hl with | [_,_,_],_=>rfl
 have bd:=He.meth_ok (c.t.d.fact 63 (f:=.meth "Renamer" "expression") rfl)
 obtain⟨fd_Renamer_statement,F_Renamer_statement⟩:=c.t.d.def_ 40 (d:=Zco) rfl
 have bj:Binds K fd_Renamer_statement ["self", "module", "row"] []:=F_Renamer_statement.bindsN fun _ _ _ _ _ _ us hl=>match us,hl with | [_,_,_],_=>rfl
 have bi:=He.meth_ok (c.t.d.fact 64 (f:=.meth "Renamer" "statement") rfl)
 obtain⟨fd_Renamer_rows,F_Renamer_rows⟩:=c.t.d.def_ 41 (d:=ZeL) rfl
 have bJ:Binds K fd_Renamer_rows ["self", "module", "block"] []:=F_Renamer_rows.bindsN fun _ _ _ _ _ _ us hl=>match us,hl with | [_,_,_],_=>rfl
 have bK:=He.meth_ok (c.t.d.fact 65 (f:=.meth "Renamer" "rows") rfl)
 have B:Blt mg:=⟨He.free_ok X G (c.t.d.fact 32 (f:=.free "isinstance") rfl),He.free_ok X G (c.t.d.fact 33 (f:=.free "int") rfl),He.free_ok X G (c.t.d.fact 34 (f:=.free "bool") rfl),He.free_ok X G (c.t.d.fact 35 (f:=.free "str") rfl),He.free_ok X G (c.t.d.fact 36 (f:=.free "len") rfl),He.free_ok X G (c.t.d.fact 37 (f:=.free "max") rfl),He.free_ok X G (c.t.d.fact 38 (f:=.free "min") rfl),He.free_ok X G (c.t.d.fact 39 (f:=.free "range") rfl),He.free_ok X G (c.t.d.fact 40 (f:=.free "list") rfl),He.free_ok X G (c.t.d.fact 41 (f:=.free "tuple") rfl),He.free_ok X G (c.t.d.fact 42 (f:=.free "dict") rfl),He.free_ok X G (c.t.d.fact 43 (f:=.free "sorted") rfl),He.free_ok X G (c.t.d.fact 44 (f:=.free "enumerate") rfl)⟩
 have hsup:=He.free_ok X G (c.t.d.fact 45 (f:=.free "super") rfl)
 have dN:=He.glo_ok X G (c.t.d.fact 46 (f:=.glo "Program") rfl)
 have dY:=He.glo_ok X G (c.t.d.fact 47 (f:=.glo "Renamer") rfl)
 have bD:=He.glo_ok X G (c.t.d.fact 48 (f:=.glo "UnknownModule") rfl)
 have bR:=He.glo_ok X G (c.t.d.fact 49 (f:=.glo "InvalidName") rfl)
 have bI:=He.glo_ok X G (c.t.d.fact 50 (f:=.glo "CannotRename") rfl)
 have d8:=He.glo_ok X G (c.t.d.fact 51 (f:=.glo "LinkError") rfl)
 have dM:=He.mkr_ok (c.t.d.fact 66 (f:=.mkr "Program") rfl)
 have dW:=He.mkr_ok (c.t.d.fact 67 (f:=.mkr "Renamer") rfl)
 have bN:InsC K (He.ga K "Renamer") ["target", "old", "new"]:=⟨He.cls_ok (c.t.d.fact 52 (f:=.cls "Renamer") rfl),Yy.mpr ⟨He.noat_ok (c.t.d.fact 53 (f:=.noat "Renamer" "target") rfl),Yy.mpr ⟨He.noat_ok (c.t.d.fact 54 (f:=.noat "Renamer" "old") rfl),Yy.mpr ⟨He.noat_ok (c.t.d.fact 55 (f:=.noat "Renamer" "new") rfl),fun _ z=>nomatch z⟩⟩⟩⟩
 have x_0:=He.exm_ok (c.t.d.fact 68 (f:=.exm "UnknownModule" "CannotRename" false) rfl)
 have x_1:=He.exm_ok (c.t.d.fact 69 (f:=.exm "UnknownModule" "InvalidName" false) rfl)
 have x_2:=He.exm_ok (c.t.d.fact 70 (f:=.exm "UnknownModule" "UnknownModule" true) rfl)
 have x_3:=He.exm_ok (c.t.d.fact 71 (f:=.exm "InvalidName" "CannotRename" false) rfl)
 have x_4:=He.exm_ok (c.t.d.fact 72 (f:=.exm "InvalidName" "InvalidName" true) rfl)
 have x_5:=He.exm_ok (c.t.d.fact 73 (f:=.exm "CannotRename" "CannotRename" true) rfl)
 have cB:GI mg "MAX_LETTERS" 8:=by obtain⟨t,e⟩:=He.int_ok X G (c.t.d.fact 74 (f:=.int "MAX_LETTERS" 8) rfl); exact⟨_,e,⟨t,rfl⟩⟩
 have cC:GI mg "MAX_MODULES" 8:=by obtain⟨t,e⟩:=He.int_ok X G (c.t.d.fact 75 (f:=.int "MAX_MODULES" 8) rfl); exact⟨_,e,⟨t,rfl⟩⟩
 have bX:GI mg "MAX_STATEMENTS" 60:=by obtain⟨t,e⟩:=He.int_ok X G (c.t.d.fact 76 (f:=.int "MAX_STATEMENTS" 60) rfl); exact⟨_,e,⟨t,rfl⟩⟩
 have cY:GI mg "MAX_DEPTH" 3:=by obtain⟨t,e⟩:=He.int_ok X G (c.t.d.fact 77 (f:=.int "MAX_DEPTH" 3) rfl); exact⟨_,e,⟨t,rfl⟩⟩
 have ck:GI mg "MAX_OPERATORS" 3:=by obtain⟨t,e⟩:=He.int_ok X G (c.t.d.fact 78 (f:=.int "MAX_OPERATORS" 3) rfl); exact⟨_,e,⟨t,rfl⟩⟩
 have cX:GI mg "TOO_LARGE" 1000000000000000000000000000000000000000000000000000000000000:=by obtain⟨t,e⟩:=He.int_ok X G (c.t.d.fact 79 (f:=.int "TOO_LARGE" 1000000000000000000000000000000000000000000000000000000000000) rfl); exact⟨_,e,⟨t,rfl⟩⟩
 have dm:GS mg "LETTERS" "abcdefghijklmnopqrstuvwxyz" := by obtain⟨t,e⟩:=He.str_ok X G (c.t.d.fact 80 (f:=.str "LETTERS" "abcdefghijklmnopqrstuvwxyz") rfl); exact⟨_,e,⟨t,rfl⟩⟩
 have e_0:(Zr3 K (He.ga K "Program"))=true:=Zi_ (Zef c.more) 0 rfl
 have e_1:(Zlk K (He.ga K "Program") "own_names" 1)=true:=Zi_ (Zef c.more) 1 rfl
 have e_2:(Zlk K (He.ga K "Program") "own_blocks" 0)=true:=Zi_ (Zef c.more) 2 rfl
 have e_3:(SuD.fnB K PP.main.file Zw)=true:=Zi_ (Zef c.more) 3 rfl
 have e_4:(SuD.clB K Zw)=true:=Zi_ (Zef c.more) 4 rfl
 have e_5:(SuD.veB K Zw)=true:=Zi_ (Zef c.more) 5 rfl
 have e_6:(xfB K (He.ga K "UnknownModule"))=true:=Zi_ (Zef c.more) 6 rfl
 have e_7:(Zq0 K (SuD.f K Zw))=true:=Zi_ (Zef c.more) 7 rfl
 have bT:=e_7
 have e_8:(PySem.W.fnIn K (He.ma K (He.ga K "Program") "__getitem__"))=true:=Zi_ (Zef c.more) 8 rfl
 have bt:=e_8
 have e_9:(xtB K (He.ga K "InvalidName"))=true:=Zi_ (Zef c.more) 9 rfl
 have cq:=e_9
 have eE:(xtB K (He.ga K "CannotRename"))=true:=Zi_ (Zef c.more) 10 rfl
 have bV:=eE
 have eM:(Zjj K (He.ga K "UnknownModule"))=true:=Zi_ (Zef c.more) 11 rfl
 have dF:=eM
 have eO:(Zjj K (He.ga K "InvalidName"))=true:=Zi_ (Zef c.more) 12 rfl
 have cj:=eO
 have eX:(Zjj K (He.ga K "CannotRename"))=true:=Zi_ (Zef c.more) 13 rfl
 have bW:=eX
 have fg:(kitB K (He.ga K "InvalidName") (He.ga K "LinkError"))=true:=Zi_ (Zef c.more) 14 rfl
 have bn:=fg
 have fi:(kitB K (He.ga K "CannotRename") (He.ga K "LinkError"))=true:=Zi_ (Zef c.more) 15 rfl
 have bh:=fi
 obtain⟨fd_UnknownModule,D_UnknownModule⟩:=SuD.suDef (P:=PP) (c.su_ 0 (d:=Zw) rfl) e_3
 have bg:=SuD.xcls (d:=Zw) PySem.F.excBase_ValueError PySem.W.kxs_ValueError (SuD.oexV e_5) e_4
 have cg:=xfB_ok e_6
 have bo:=(⟨Zn4 e_0,slotB_ok e_1,slotB_ok e_2⟩:Zjt K (He.ga K "Program") (He.ma K (He.ga K "Program") "own_names") (He.ma K (He.ga K "Program") "own_blocks"))
 have e:=hfa.symm.trans et
 cases e
 have b:=FunD.bindsA (ps:=["_law_script"]) F_law fun _ _ _ _ _ _ us hl=>match us,hl with | [_],_=>rfl
 refine⟨fd_law,fun s v=>b s [v] rfl,fun base _ _=>?_⟩
 have bA:C8.Cal PP w K mg base 1 "is_integer" (Zo K) []:=Zar (Zih F_is_integer B) cV F_is_integer.kp cW
 have bM:C8.Cal PP w K mg base 1 "is_name" (ZO K) []:=Zar (ZkV F_is_name B dm cB) dS F_is_name.kp dR
 have da:C8.Cal PP w K mg base 1 "blocks_of" (ZbX K) []:=Zar (Zi3 F_blocks_of B) dg F_blocks_of.kp d6
 have cG:C8.Cal PP w K mg base 1 "names_of" (Zan K) []:=Zar (ZjV F_names_of B) dL F_names_of.kp dq
 have bw:C8.Cal PP w K mg base 1 "expressions_of" (ZP K) []:=Zar (ZfN F_expressions_of B) ce F_expressions_of.kp cf
 have dk:C8.Cal PP w K mg base 1 "depth_of" (Zcp K) []:=Zar (ZjX F_depth_of B) dz F_depth_of.kp dE
 have eD:∀ n,C8.Cal PP w K mg base (n + 2) "is_valid_expression" (Zg K n) []:=fun n=>by
  induction n with
  | zero=>exact Zar (Zc2 ZqO) b8 F_is_valid_expression.kp b9
  | succ n ih=>exact Zar (Zdw F_is_valid_expression B ih bM bA ck cX) b8 F_is_valid_expression.kp b9
 have eq:C8.Cal PP w K mg base 9 "is_valid_statement" (ZT K) []:=Zar (ZdX F_is_valid_statement B bw (eD 5) cG bM dk cY) bH F_is_valid_statement.kp bL
 have ew:∀ n,C8.Cal PP w K mg base (n + 1) "statements_in" (Zq K n) []:=fun n=>by
  induction n with
  | zero=>exact Zar (Zc2 ZsP) bE F_statements_in.kp bF
  | succ n ih=>exact Zar (Zga F_statements_in B da ih) bE F_statements_in.kp bF
 have eT:C8.Cal PP w K mg base 13 "first_fault" (Zbb K) []:=Zar (Zhe F_first_fault B eq bM (ew 10) bX cC) cM F_first_fault.kp cK
 have eL:C8.Cal PP w K mg base 1 "_law_mix" (ZcM K) []:=Zar (ZkY F_law_mix B) dP F_law_mix.kp dX
 have cz:C8.Cal PP w K mg base 1 "_law_next" (Zd K) []:=Zar (ZjZ F_law_next B) dG F_law_next.kp du
 have eh:C8.Cal PP w K mg base 2 "_law_name" (ZaF K) []:=Zar (Zj0 F_law_name B cz) dy F_law_name.kp dB
 have eG:C8.Cal PP w K mg base 3 "_law_names" (Zbq K) []:=Zar (Zi5 F_law_names B cz eh) d7 F_law_names.kp d9
 have ee:C8.Cal PP w K mg base 2 "_law_integer" (ZH K) []:=Zar (Zhf F_law_integer B cz) cO F_law_integer.kp cL
 have eU:∀ n,C8.Cal PP w K mg base (n + 2) "_law_expr" (ZN K n) []:=fun n=>by
  induction n with
  | zero=>exact Zar (Zc2 ZqP) cI F_law_expr.kp cE
  | succ n ih=>exact Zar (Zj1 F_law_expr B ee cz ih) cI F_law_expr.kp cE
 have eN:C8.Cal PP w K mg base 2 "_law_load" (Zcq K) []:=Zar (Zj2 F_law_load B cz) dJ F_law_load.kp dw
 have eK:∀ n,C8.Cal PP w K mg base (2 * n + 10) "_law_statement" (Z0 K n) []:=fun n=>by
  induction n with
  | zero=>exact Zar (Zc2 ZqQ) bB F_law_statement.kp bC
  | succ n ih =>
    have cr:C8.Cal PP w K mg base (2 * n + 11) "_law_rows" (Z1 K n) []:=Zar (Zg1 F_law_rows B cz ih) cD F_law_rows.kp cH
    exact Zp0 (Zgb F_law_statement B cz (eU 5) cr ee eN) (by omega) bB F_law_statement.kp bC
 have dZ:C8.Cal PP w K mg base 17 "_law_rows" (Z1 K 3) []:=Zar (Zg1 F_law_rows B cz (eK 3)) cD F_law_rows.kp cH
 have eY:C8.Cal PP w K mg base 18 "_law_first_rows" (Zah K) []:=Zar (ZfQ F_law_first_rows B dZ ee cz) bY F_law_first_rows.kp bZ
 have eJ:C8.Cal PP w K mg base 19 "_law_program" (ZaM K) []:=Zar (Zhg F_law_program B eY dZ eG) cJ F_law_program.kp cQ
 have kP:C8.Mak PP w K mg base 14 "Program" (He.ga K "Program") (Zi K (He.ga K "Program")) []:=ZqM dM dN (Ze6 bo F_Program___init__ B eT) bU
 have og:ZoR PP w K mg base 1 (He.ga K "Program") (ZK K (He.ga K "Program")) (Zm K (He.ga K "Program")) :=
  ⟨⟨_,b3.at_,b3.fn,Zlj (Zdi bo F_Program___contains__ B) bz⟩,⟨_,bc.at_,bt,bc.fn,Zlj (Zdy bo F_Program___getitem__ B) bG⟩⟩
 have sAl:MSl PP w K mg base 3 (He.ga K "Program") "all_names" (ZL K (He.ga K "Program")):=⟨⟨_,bo.c,bO,Zlj (ZeJ bo F_Program_all_names B) bQ⟩⟩
 have geE:ZmT PP w K mg base 12 (He.ga K "Program"):=ZqK bo bp F_Program_each_statement bq (ew 10)
 have eI:∀ n,C8.Cal PP w K mg base (n + 2) "read_in" (ZaO K n) []:=fun n=>by
  induction n with
  | zero=>exact Zar (Zc2 ZsQ) cS F_read_in.kp cU
  | succ n ih=>exact Zar (ZkX F_read_in B ih bA) cS F_read_in.kp cU
 have fj:C8.Cal PP w K mg base 9 "places_of" (Zb2 K) []:=Zar (Zi4 F_places_of B cG bw (eI 5)) dh F_places_of.kp df
 have eV:C8.Cal PP w K mg base 15 "can_rename" (Zby K (He.ga K "Program")) []:=Zar (Zii F_can_rename B fj geE) cZ F_can_rename.kp d5
 have cN:=bN.cls
 have kN:C8.Mak PP w K mg base 1 "Renamer" (He.ga K "Renamer") (ZQ K (He.ga K "Renamer")) []:=ZqM dW dY (Ze8 bN F_Renamer___init__ B) bS
 have mCa:C8.Met PP w K mg base 1 (He.ga K "Renamer") "called" (Zk K (He.ga K "Renamer")) []:=Zj3 cN ci (ZfP bN F_Renamer_called B) cb
 have mEx:∀ n,C8.Met PP w K mg base (n + 2) (He.ga K "Renamer") "expression" (Zh K (He.ga K "Renamer") n) []:=fun n=>by
  induction n with
  | zero=>exact Zj3 cN bd (Zc2 ZqR) bf
  | succ n ih=>exact Zj3 cN bd (ZdZ bN F_Renamer_expression B ih mCa bA) bf
 have mSt:∀ n,C8.Met PP w K mg base (2 * n + 7) (He.ga K "Renamer") "statement" (ZC K (He.ga K "Renamer") n) []:=fun n=>by
  induction n with
  | zero=>exact Zj3 cN bi (Zc2 ZqS) bj
  | succ n ih =>
    have mr:C8.Met PP w K mg base (2 * n + 8) (He.ga K "Renamer") "rows" (Zy K (He.ga K "Renamer") n) []:=Zj3 cN bK (Zd0 F_Renamer_rows B ih) bJ
    exact Zj3 cN bi (ZeK F_Renamer_statement B (mEx 5) mCa mr) bj
 have mRo:C8.Met PP w K mg base 20 (He.ga K "Renamer") "rows" (Zy K (He.ga K "Renamer") 6) []:=Zj3 cN bK (Zd0 F_Renamer_rows B (mSt 6)) bJ
 have xU:XMk PP w K mg base 1 "UnknownModule" (He.ga K "UnknownModule") ["module"]:=⟨⟨_,fd_UnknownModule,_,_,_,_,bg,ZfC D_UnknownModule bg hsup,ZfD D_UnknownModule bT,bD⟩⟩
 have noU:PySem.W.findIn K (.ref (He.ga K "UnknownModule")) "module" = some none:=bg.no _ (Yg ..)
 have xtI:XTx K mg "InvalidName" (He.ga K "InvalidName"):=Znn cq bR
 have xtC:XTx K mg "CannotRename" (He.ga K "CannotRename"):=Znn bV bI
 have ej:ZqZ PP w K mg base 22 "renamed" (ZbM K (He.ga K "Program") (He.ga K "UnknownModule") (He.ga K "InvalidName") (He.ga K "CannotRename")):=ZqN (ZjY F_renamed B sAl og mRo kP kN eV xtC bM xtI xU) dQ F_renamed.kp dU
 have T35:Zsv K (He.ga K "UnknownModule") (He.ga K "InvalidName") (He.ga K "CannotRename") (He.ga K "LinkError"):=⟨x_0,x_1,x_2,x_3,x_4,x_5,Zln bh,Zln bn⟩
 have eF:∀ n,C8.Cal PP w K mg base (n + 1) "_law_plain_expr" (Zl K n) []:=fun n=>by
  induction n with
  | zero=>exact Zar (Zc2 ZqT) bu F_law_plain_expr.kp bx
  | succ n ih=>exact Zar (ZfS F_law_plain_expr B ih) bu F_law_plain_expr.kp bx
 have eS:∀ n,C8.Cal PP w K mg base (n + 7) "_law_plain" (ZM K n) []:=fun n=>by
  induction n with
  | zero=>exact Zar (Zc2 ZqU) cx F_law_plain.kp cw
  | succ n ih=>exact Zar (Zi6 F_law_plain B (eF 5) ih) cx F_law_plain.kp cw
 have eQ:C8.Cal PP w K mg base 3 "_law_fresh" (Zb3 K) []:=Zar (Zi7 F_law_fresh B eh) dc F_law_fresh.kp de
 have eR:C8.Cal PP w K mg base 20 "_law_renamable" (Zat K) []:=Zar (Zgc F_law_renamable B (eS 5) eQ cz eJ) cA F_law_renamable.kp cy
 have eZ:C8.Cal PP w K mg base 23 "_law_refused" (Zz K (He.ga K "Program")) []:=Zar (Zhh T35 F_law_refused B ej bD cg noU bR (Zj_ cj) ⟨_,d8,rfl⟩ bI (Zj_ bW)) cP F_law_refused.kp cR
 have eW:C8.Cal PP w K mg base 2 "_law_reason" (ZbA K) []:=Zar (Zij F_law_reason B cz) d3 F_law_reason.kp d4
 exact ZqL F_law B kP eZ cz eW eR eL
end M
open PySem PySem.W PySem.Calls PyProof.Rows
theorem PySem.Challenge.cw_modlink_k35_renamings_refused_holds : PySem.Challenge.rw_modlink_k35_renamings_refused.Holds := by
 refine M.fin_open fun hws=>?_
 refine HandSHeadRun.head_any (r:=OpenLaw.row PySem.Challenge.rw_modlink_k35_renamings_refused) (q:=view (OpenLaw.row PySem.Challenge.rw_modlink_k35_renamings_refused).prog [51]) (H:=M.hk) (ob:=M.ob) (M:=30000) (loose:=M.nms) (d:=HandSHeadRun.topDef (OpenLaw.row PySem.Challenge.rw_modlink_k35_renamings_refused).prog 51) (kwd:=[]) M.Zr7
  M.fin_e M.fin_f M.run M.fin_d M.fin_p M.fin_k (by rfl) hws M.fin_ok M.fin_b ?hw ?hc
 case hw=>w_witness2
 case hc =>
  refine L2.walk_ofE (l:=PySem.Challenge.rw_modlink_k35_renamings_refused) (n:=63) (k:=216) (x := "_law_script") (CX:=L2.CX0) rfl (by decide) (by kernel_rfl) ⟨rfl,by decide,by decide⟩ ?F (fun _ _ _ _ z=>z)
  intro w mg fa h Y G hmg0
  obtain⟨K,KX,c⟩:=Y
  have hmg:mg ("law" : PySem.Str)=some (.ref fa):=by
   have e:(HandSHeadRun.topDef (OpenLaw.row PySem.Challenge.rw_modlink_k35_renamings_refused).prog 51).name=("law" : PySem.Str):=M.fin_n
   rw[← e]
   exact hmg0
  obtain⟨fd,hb,hF⟩:=M.facts (w:=w) KX G hmg c
  exact⟨K,fd,M.Zkr K,KX,hb,fun H a ns hl _ hS=>⟨a,ns,rfl,hS,hl,fun _=>rfl⟩,hF⟩
