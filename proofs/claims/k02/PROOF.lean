import PyProof.Rows.All
import HandS.HeadEnd
import HandS.Head2
import Wide.All
import OpenK.AllK
import Wide.FinOn
import KE.KStateDown
import Lean
import HandS.ForMost
import HandS.More
import HandS.Conv
import HandS.Codes
import HandS.IsInst
import HandS.FStr
import HandS.Style
import HandS.TupAny
import HandS.Wide
import HandS.Flow
import HandS.Defaults
import HandS.WordsExc
import HandS.Head0
import HandS.Head1
import HandS.HeadHook1
import HandS.HeadHook2
import HandS.HeadHook3
import PyProof.Rows.MatchSeqLen
import KE.KExcSuper
import HandS.ExcInit
import HandS.ExcSuper
import HandS.ExcField
import HandS.MakeKwOnly
import HandS.ExcCtx
import HandS.SuiteRaise
import HandS.DictComp
import HandS.DictTup
import HandS.Small
import HandS.Slots
import HandS.SlotsOwn
import KE.KSortTupAny
import KE.KDictSum
import PyProof.DictMoreH
import HandS.HeadHook4
import HandS.HeadNt
import KE.KIsAll
import HandS.ExcIs
import HandS.GenOver
import HandS.GenList
import PyProof.FactsLen
import PyProof.StrOps2
import PyProof.DictUpdate
import PyProof.DictDisplay
import KE.KDictOf
import HandS.Dict
import HandS.Set
import HandS.SetBool
import HandS.Strs
import HandS.SetFor
import KE.KDictKeyed
import HandS.TupLen
import HandS.Star
import HandS.DeepEq
import KE.KEqNest
import KE.KOpsOwn
import HandS.WordsDict
import HandS.TupMul
import PySem.Challenge.RW_modlink_k02_programs_as_sets
open _root_.List renaming not_mem_nil→Ya,length_map→Yb,length_append→Yc,length_cons→Yd,mem_singleton→Ye,mem_cons_of_mem→Yf,mem_cons_self→Yg,mem_append→Yh,length_nil→Yi,mem_of_getElem?→Yj,getElem?_eq_some_iff→Yk,map_append→Yl,getElem?_map→Ym,mem_cons→Yn,mem_append_left→Yo,mem_append_right→Yp,mem_map→Yq,map_cons→Yr,append_assoc→Ys,take_length→Yt,length_take→Yu,mem_map_of_mem→Yv,getElem?_eq_getElem→Yw,map_map→Yx,getElem?_of_mem→Yy,cons_append→Yz
open PySem.W renaming Frag→YA
open PySem renaming wpAny_bind→YB,FuncData→YC,Addr→YD,Program→YE,World→YF,Value→YG,Shared→YH,Stmt→YI,wpAny_pure→YJ,sizeLine→YK
open PySem.Heap renaming get?_push_of_some→YL,get?_push_size→YM
open PySem.Str renaming ofString→YN
open _root_.Nat renaming le_refl→YO,zero_le→YP,ne_of_lt→YQ
open L2 renaming pa_cons→YR,tVar→YS,tCons→YT,defScope→YU,pa_nil→YV,pss_cons→YW,pss_one→YX,pss_nil→YY,tNil→YZ,defBody→Y0,defArgs→Y1,pe_int→Y2,pe_str→Y3,gName→Y4,ix_seq→Y5,pt_cmpR→Y6,ps_ret→Y7,upd_same→Y8,tSeq→Y9,FnScope→Y_,nomark→Xb,tTest→Xc,ps_expr→Xd,pe_ix→Xe,inClass→Xf,tFld→Xg,tRet→Xh,tIfS→Xi,tMeth→Xj,tAsg→Xk,FnOk→Xl,tCall→Xm,tDrop→Xn,tNext→Xo,pe_callB→Xp
set_option Elab.async false
set_option linter.all false
set_option maxRecDepth 100000
set_option maxHeartbeats 0
section
open PySem PySem.W PySem.Calls PyProof.Rows
theorem M.fin_open(h:(OpenLaw.row PySem.Challenge.rw_modlink_k02_programs_as_sets).wellSaid=true→(OpenLaw.row PySem.Challenge.rw_modlink_k02_programs_as_sets).Holds):PySem.Challenge.rw_modlink_k02_programs_as_sets.Holds:=by
 w_on; o_law
 exact h (by assumption)
theorem M.fin_ok:(chainsOk (view (OpenLaw.row PySem.Challenge.rw_modlink_k02_programs_as_sets).prog [43]) && opensWell (OpenLaw.row PySem.Challenge.rw_modlink_k02_programs_as_sets).prog && (frees (OpenLaw.row PySem.Challenge.rw_modlink_k02_programs_as_sets).toRowW && (OpenLaw.row PySem.Challenge.rw_modlink_k02_programs_as_sets).within.isEmpty))=true:=by decide +kernel
theorem M.fin_e:opening (OpenLaw.row PySem.Challenge.rw_modlink_k02_programs_as_sets).prog=plainProg (OpenLaw.row PySem.Challenge.rw_modlink_k02_programs_as_sets).prog.main.scope.names:=by kernel_rfl
theorem M.fin_f(s:YH):fenceModules? (OpenLaw.row PySem.Challenge.rw_modlink_k02_programs_as_sets).prog s=some s:=by kernel_rfl
theorem M.fin_d:defOf (view (OpenLaw.row PySem.Challenge.rw_modlink_k02_programs_as_sets).prog [43]) (OpenLaw.row PySem.Challenge.rw_modlink_k02_programs_as_sets).name=some (HandSHeadRun.topDef (OpenLaw.row PySem.Challenge.rw_modlink_k02_programs_as_sets).prog 43,[]):=by kernel_rfl
theorem M.fin_p:(OpenLaw.row PySem.Challenge.rw_modlink_k02_programs_as_sets).prog.theDef (OpenLaw.row PySem.Challenge.rw_modlink_k02_programs_as_sets).name=some ((HandSHeadRun.topDef (OpenLaw.row PySem.Challenge.rw_modlink_k02_programs_as_sets).prog 43).params,(HandSHeadRun.topDef (OpenLaw.row PySem.Challenge.rw_modlink_k02_programs_as_sets).prog 43).body,(HandSHeadRun.topDef (OpenLaw.row PySem.Challenge.rw_modlink_k02_programs_as_sets).prog 43).scope):=by kernel_rfl
theorem M.fin_k:kwWritten? (HandSHeadRun.topDef (OpenLaw.row PySem.Challenge.rw_modlink_k02_programs_as_sets).prog 43).params.kwonlyargs (HandSHeadRun.topDef (OpenLaw.row PySem.Challenge.rw_modlink_k02_programs_as_sets).prog 43).params.kw_defaults=some []:=by kernel_rfl
theorem M.fin_n:(HandSHeadRun.topDef (OpenLaw.row PySem.Challenge.rw_modlink_k02_programs_as_sets).prog 43).name=("law" : PySem.Str):=by kernel_rfl
theorem M.fin_b:(OpenLaw.row PySem.Challenge.rw_modlink_k02_programs_as_sets).prog.bare:=⟨rfl,rfl,rfl,rfl,rfl,by decide +kernel⟩
end
namespace M
open PySem PySem.Spec PyProof.Rows L2
structure Za(S:List YD)(H H':Hp):Prop where
 obj:∀ b u,b∉S→H b=some u→H' b=some u
 tup:∀ b xs,H b=some (.tup xs)→H' b=some (.tup xs)
 frz:∀ b o u,H b=some (.frz o u)→H' b=some (.frz o u)
 dom:∀ b u,H b=some u→∃ u',H' b=some u'
theorem Za.refl(S:List YD)(H:Hp):Za S H H:=⟨fun _ _ _ e=>e,fun _ _ e=>e,fun _ _ _ e=>e,fun _ u e=>⟨u,e⟩⟩
theorem Za.trans{S:List YD}{H H1 H2:Hp}(a:Za S H H1)(b:Za S H1 H2):Za S H H2 :=
 ⟨fun c u n e=>b.obj c u n (a.obj c u n e),fun c xs e=>b.tup c xs (a.tup c xs e),fun c o u e=>b.frz c o u (a.frz c o u e),fun c u e=>let ⟨_,e1⟩:=a.dom c u e; b.dom c _ e1⟩
theorem Za.mono{S T:List YD}{H H1:Hp}(a:Za S H H1)(h:∀ b∈S,b∈T):Za T H H1 :=
 ⟨fun c u n e=>a.obj c u (fun z=>n (h c z)) e,a.tup,a.frz,a.dom⟩
theorem Za.nil{T:List YD}{H H1:Hp}(a:Za [] H H1):Za T H H1:=a.mono (fun _ h=>nomatch h)
theorem Za.step{S T:List YD}{H H1 H2:Hp}(a:Za S H H1)(b:Za T H1 H2)(h:∀ x∈T,x∈S∨H x=none):Za S H H2:=by
 refine⟨fun c u n e=>b.obj c u (fun z=>?_) (a.obj c u n e),fun c xs e=>b.tup c xs (a.tup c xs e),fun c o u e=>b.frz c o u (a.frz c o u e),fun c u e=>let ⟨_,e1⟩:=a.dom c u e; b.dom c _ e1⟩
 rcases h c z with q | q
 ·exact n q
 ·rw[q]at e; cases e
theorem Za.step0{S:List YD}{H H1 H2:Hp}(a:Za S H H1)(b:Za [] H1 H2):Za S H H2:=a.step b (fun _ h=>nomatch h)
theorem Za.step1{S:List YD}{H H1 H2:Hp}{l:YD}(a:Za S H H1)(b:Za [l] H1 H2)(h:H l=none):Za S H H2:=a.step b (fun x m=>by simp at m; subst m; exact .inr h)
theorem Za.back{S:List YD}{H H1 H2:Hp}(b:Za S H1 H2)(a:Za S H H1):Za S H H2:=a.trans b
theorem Za.back0{S:List YD}{H H1 H2:Hp}(b:Za [] H1 H2)(a:Za S H H1):Za S H H2:=a.step0 b
theorem Za.step1'{S:List YD}{H H1 H2:Hp}{l:YD}(a:Za S H H1)(b:Za [l] H1 H2):Za (l :: S) H H2:=(a.mono (fun x m=>Yf _ m)).trans (b.mono (fun x m=>by simp at m; subst m; exact Yg))
structure KC(S:List YD)(H H':Hp):Prop where
 k:Za S H H'
theorem Za.new{H:Hp}{p:YD}{o:HO}(h:H p=none):Za [] H (upd H p o):=by
 have z:∀ b u,H b=some u→upd H p o b=some u:=fun b u e=>by rw[upd_ne (ne_of_none e h)]; exact e
 exact⟨fun b u _ e=>z b u e,fun b xs e=>z b _ e,fun b o u e=>z b _ e,fun b u e=>⟨u,z b u e⟩⟩
theorem Za.put{H:Hp}{l:YD}{o u:HO}(h:H l=some o)(m:Mut (some o)):Za [l] H (upd H l u):=by
 have z:∀ b v,b≠l→H b=some v→upd H l u b=some v:=fun b v n e=>by rw[upd_ne n]; exact e
 refine⟨fun b v n e=>z b v (fun q=>n (by simp[q])) e,fun b xs e=>z b _ (fun q=>?_) e,fun b ob v e=>z b _ (fun q=>?_) e,fun b v e=>?_⟩
 ·rw[q,h]at e; cases e; exact m
 ·rw[q,h]at e; cases e; exact m
 ·by_cases q:b=l
  ·rw[q]; exact⟨u,Y8⟩
  ·exact⟨v,z b v q e⟩
theorem Za.ne{S:List YD}{H H':Hp}(k:Za S H H'){a p:YD}{u:HO}(h:H a=some u)(n:H' p=none):a≠p:=by
 rintro rfl
 obtain⟨u',e⟩:=k.dom a u h
 rw[n]at e; cases e
theorem Za.free{S:List YD}{H H':Hp}(k:Za S H H'){p:YD}(n:H' p=none):H p=none:=by
 cases q:H p with
 | none=>rfl
 | some u =>
   obtain⟨u',e⟩:=k.dom p u q
   rw[n]at e; cases e
theorem Za.sqT{S:List YD}{K:YA}{H H':Hp}{a:YD}{xs:List V}(k:Za S H H')(h:SqT K H a xs):SqT K H' a xs:=by
 rcases h with(h | ⟨o,h⟩) | h
 ·exact .inl (.inl (k.tup _ _ h))
 ·exact .inl (.inr ⟨o,k.frz _ _ _ h⟩)
 ·exact .inr h
theorem Za.sqL{S:List YD}{K:YA}{H H':Hp}{a:YD}{xs:List V}(k:Za S H H')(n:a∉S)(h:SqL K H a xs):SqL K H' a xs:=by
 rcases h with(h | ⟨o,h⟩) | h
 ·exact .inl (.inl (k.obj _ _ n h))
 ·exact .inl (.inr ⟨o,k.frz _ _ _ h⟩)
 ·exact .inr h
mutual
inductive Im (K:YA) (H:Hp):V→PyData→Prop
 | non:Im K H .non .none
 | bl (b:Bool):Im K H (.bl b) (.bool b)
 | int (i:Int):Im K H (.int i) (.int i)
 | str (x:Str):Im K H (.str x) (.str x)
 | tup {a:YD} {xs:List V} {ds:List PyData}:SqT K H a xs→ImAll K H xs ds→Im K H (.ref a) (.tuple ds)
inductive ImAll (K:YA) (H:Hp):List V→List PyData→Prop
 | nil:ImAll K H [] []
 | cons {v:V} {vs:List V} {d:PyData} {ds:List PyData}:Im K H v d→ImAll K H vs ds→ImAll K H (v :: vs) (d :: ds)
end
section
variable {K:YA} {S:List YD} {H H':Hp}
mutual
theorem Im.mono(k:Za S H H'):∀ {v:V} {d:PyData},Im K H v d→Im K H' v d
 | _,_,.non=>.non
 | _,_,.bl b=>.bl b
 | _,_,.int i=>.int i
 | _,_,.str x=>.str x
 | _,_,.tup h a=>.tup (k.sqT h) (ImAll.mono k a)
theorem ImAll.mono(k:Za S H H'):∀ {vs:List V} {ds:List PyData},ImAll K H vs ds→ImAll K H' vs ds
 | _,_,.nil=>.nil
 | _,_,.cons h t=>.cons (Im.mono k h) (ImAll.mono k t)
end
mutual
theorem Im.dp:∀ {v:V} {d:PyData},Im K H v d→Dp K H v d
 | _,_,.non=>.non
 | _,_,.bl b=>.bl b
 | _,_,.int i=>.int i
 | _,_,.str x=>.str x
 | _,_,.tup h a=>.tup h (ImAll.dp a)
theorem ImAll.dp:∀ {vs:List V} {ds:List PyData},ImAll K H vs ds→DpAll K H vs ds
 | _,_,.nil=>.nil
 | _,_,.cons h t=>.cons (Im.dp h) (ImAll.dp t)
end
theorem Im.of_str{v:V}{x:Str}(h:Im K H v (.str x)):v = .str x:=by cases h; rfl
theorem Im.of_int{v:V}{x:Int}(h:Im K H v (.int x)):v = .int x:=by cases h; rfl
theorem Im.of_tup{v:V}{ds:List PyData}(h:Im K H v (.tuple ds)):∃ a xs,v = .ref a∧SqT K H a xs∧ImAll K H xs ds:=by
 cases h with
 | tup h a=>exact⟨_,_,rfl,h,a⟩
theorem ImAll.of_nil{vs:List V}(h:ImAll K H vs []):vs=[]:=by cases h; rfl
theorem ImAll.of_cons{vs:List V}{d:PyData}{ds:List PyData}(h:ImAll K H vs (d :: ds)):∃ v r,vs=v :: r∧Im K H v d∧ImAll K H r ds:=by
 cases h with
 | cons h t=>exact⟨_,_,rfl,h,t⟩
theorem ImAll.length:∀ {vs:List V} {ds:List PyData},ImAll K H vs ds→vs.length=ds.length
 | _,_,.nil=>rfl
 | _,_,.cons _ t=>by simp[ImAll.length t]
theorem ImAll.get:∀ {vs:List V} {ds:List PyData} {i:Nat} {v:V},ImAll K H vs ds→vs[i]? = some v→∃ d,ds[i]? = some d∧Im K H v d
 | _,_,_,_,.nil,e=>by simp at e
 | _,_,0,_,.cons h _,e=>by simp at e; subst e; exact⟨_,rfl,h⟩
 | _,_,i + 1,_,.cons _ t,e=>by
   obtain⟨d,h1,h2⟩:=ImAll.get (i:=i) t (by simpa using e)
   exact⟨d,by simpa using h1,h2⟩
theorem ImAll.append:∀ {vs ws:List V} {ds es:List PyData},ImAll K H vs ds→ImAll K H ws es→ImAll K H (vs++ws) (ds++es)
 | _,_,_,_,.nil,s=>s
 | _,_,_,_,.cons h t,s=>.cons h (ImAll.append t s)
end
section
variable {X:Cx}
def rAdd(K:YA):R2:=fun x y H Q=>(rI0 fun i j=>.int (i + j)) x y H Q∨((fun x y H Q=>∃ i j,x = .str i∧y = .str j∧i.length + j.length ≤ YK∧Q (.str (i++j)) H):R2) x y H Q∨rCat x y H Q∨rCatA K x y H Q
theorem Zaj:OpR X (binaryOp .Add) (rAdd X.K):=OpR.or op_add (OpR.or op_add_str (OpR.or op_cat op_catA))
def ZbH(K:YA):R2:=fun x y H Q=>rEq x y H Q∨rEqD K x y H Q
def Zie(K:YA):R2:=fun x y H Q=>rNe x y H Q∨rNeD K x y H Q
theorem ZaC(hu:X.A.units + 64 < cLine):OpR X (compareOp .Eq) (ZbH X.K):=OpR.or op_eq (op_eqD hu)
theorem Zg4(hu:X.A.units + 64 < cLine):OpR X (compareOp .NotEq) (Zie X.K):=OpR.or op_ne (op_neD hu)
abbrev Zhx:R2:=rI0 fun i j=>.int (i - j)
abbrev Zl7:R2:=rI CMul fun i j=>.int (i * j)
abbrev Zni:R2:=rI CDivW fun i j=>.int (i / j)
abbrev Zi4:R2:=rI (fun _ j=>0 < j) fun i j=>.int (i % j)
abbrev Znj:R2:=rI CPow fun i j=>.int (i ^ j.toNat)
abbrev Zl4:R2:=rI0 fun i j=>.bl (decide (i < j))
abbrev ZsC:R2:=rI0 fun i j=>.bl (decide (i ≤ j))
abbrev Zl8:R2:=rI0 fun i j=>.bl (decide (j < i))
abbrev ZsD:R2:=rI0 fun i j=>.bl (decide (j ≤ i))
abbrev ZoG:V→Hp→VK→Prop:=rU fun i=>.int (-i)
end
inductive PEl where
 | lit (x:Str) | cap (i:Nat) | any
def pmV:List PEl→List V→Option (List (Nat×V))
 | .lit x :: ps,v :: vs=>if v = .str x then pmV ps vs else none
 | .cap i :: ps,v :: vs=>(pmV ps vs).map ((i,v) :: ·)
 | .any :: ps,_ :: vs=>pmV ps vs
 | _,_=>some []
def litOk:List PEl→List V→Prop
 | .lit _ :: ps,v :: vs=>(∃ y,v = .str y)∧litOk ps vs
 | _ :: ps,_ :: vs=>litOk ps vs
 | _,_=>True
section
variable {X:Cx}
inductive PPt (X:Cx):List Pattern→List PEl→Prop
 | nil:PPt X [] []
 | lit {x:Str} {j:Nat} {p pos:Pos} {ps:List Pattern} {es:List PEl}:PPt X ps es→PPt X (.MatchValue (.Constant (.str x) j p) pos :: ps) (.lit x :: es)
 | cap {i:Nat} {n:Str} {pos:Pos} {ps:List Pattern} {es:List PEl} (hi:X.N[i]? = some n) (hx:Loc X.env.scope n) (hf:X.fn n=true∨X.env.scope.names.lookup n=some .local):PPt X ps es→PPt X (.MatchAs none (some n) pos :: ps) (.cap i :: es)
 | any {pos:Pos} {ps:List Pattern} {es:List PEl}:PPt X ps es→PPt X (.MatchAs none none pos :: ps) (.any :: es)
theorem ZcG:PPt X [] []:=.nil
theorem ZcH{x:Str}{j:Nat}{p pos:Pos}{ps:List Pattern}{es:List PEl}(h:PPt X ps es):PPt X (.MatchValue (.Constant (.str x) j p) pos :: ps) (.lit x :: es):=.lit h
def BsR(X:Cx)(b:Nat×V)(c:Str×YG):Prop:=X.N[b.1]? = some c.1∧Loc X.env.scope c.1∧(X.fn c.1=true∨X.env.scope.names.lookup c.1=some .local)∧RelV b.2 c.2
theorem Znk{pins:List (YD×Obj)}{σ:L2.St}{H:Hp}:∀ {ps:List Pattern} {es:List PEl} {vs:List V} {us:List YG} {s:YH},PPt X ps es→Inv X pins σ H s→Vals vs us→litOk es vs→es.length=vs.length →
  wpAny (model X.prog X.w) X.A (matchEach ps X.env us) (fun r s1=>Inv X pins σ H s1∧match pmV es vs with
   | none=>r=none
   | some bs=>∃ cs,r=some cs∧Paired (BsR X) bs cs) X.xe s:=by
 intro ps
 induction ps with
 | nil =>
   intro es vs us s P I r ok hl
   cases P
   exact wpAny_matchEach_nil ⟨I,[],rfl,.nil⟩
 | cons p ps ih =>
   intro es vs us s P I r ok hl
   cases P with
   | @lit x j pp pos _ es P =>
     cases r with
     | nil=>simp at hl
     | @cons v u vs us r rs =>
       obtain⟨⟨y,rfl⟩,ok⟩:=ok
       refine wpAny_matchEach_cons (wpAny_matchPattern_Value (Calls.Constant_str ?_))
       refine thn (op_eq pins _ σ H (.str y) (.str x) _ _ (fun b H'=>b = .bl (decide ((V.str y) = .str x))∧H'=H) (I.tok _) r ⟨_,rfl⟩ ⟨rfl,rfl,rfl⟩) fun c s2 ⟨b,H2,I2,rb,e1,e2⟩=>?_
       subst e1 e2
       cases rb
       refine wpAny_truthy_bool ?_
       by_cases e:(V.str y) = .str x
       ·rw[decide_eq_true e]
        refine thn (ih P I2 rs ok (by simpa using hl)) fun r' s3 ⟨I3,q⟩=>?_
        unfold pmV
        rw[if_pos e]
        cases z:pmV es vs with
        | none =>
          rw[z]at q
          cases q
          exact⟨I3,rfl⟩
        | some bs =>
          rw[z]at q
          obtain⟨cs,rfl,pr⟩:=q
          exact⟨I3,cs,rfl,pr⟩
       ·rw[decide_eq_false e]
        unfold pmV
        rw[if_neg e]
        exact⟨I2,rfl⟩
   | @cap i n pos _ es hi hx hf P =>
     cases r with
     | nil=>simp at hl
     | @cons v u vs us r rs =>
       refine wpAny_matchEach_cons (wpAny_matchPattern_Capture ?_)
       refine thn (ih P I rs ok (by simpa using hl)) fun r' s3 ⟨I3,q⟩=>?_
       unfold pmV
       cases z:pmV es vs with
       | none =>
         rw[z]at q
         cases q
         exact⟨I3,rfl⟩
       | some bs =>
         rw[z]at q
         obtain⟨cs,rfl,pr⟩:=q
         exact⟨I3,_,rfl,.cons ⟨hi,hx,hf,r⟩ pr⟩
   | @any pos _ es P =>
     cases r with
     | nil=>simp at hl
     | @cons v u vs us r rs =>
       refine wpAny_matchEach_cons (wpAny_matchPattern_Capture ?_)
       refine thn (ih P I rs ok (by simpa using hl)) fun r' s3 ⟨I3,q⟩=>?_
       unfold pmV
       cases z:pmV es vs with
       | none =>
         rw[z]at q
         cases q
         exact⟨I3,rfl⟩
       | some bs =>
         rw[z]at q
         obtain⟨cs,rfl,pr⟩:=q
         exact⟨I3,_,rfl,pr⟩
def ZfW(σ:L2.St):List (Nat×V)→L2.St
 | []=>σ
 | b :: bs=>ZfW (σ.set b.1 (some b.2)) bs
theorem ZjP{pins:List (YD×Obj)}{H:Hp}(hN:X.N.Nodup):∀ {bs:List (Nat×V)} {cs:List (Str×YG)} {σ:L2.St} {s:YH},Paired (BsR X) bs cs→Inv X pins σ H s →
  wpAny (model X.prog X.w) X.A (assignInOrder (cs.map fun(n,_)=>bindName X.env n) (cs.map (·.2))) (fun _ s'=>Inv X pins (ZfW σ bs) H s') X.xe s
 | _,_,_,_,.nil,I=>wpAny_assignInOrder_none I
 | b :: bs,_,σ,_,.cons ⟨hi,hx,hf,r⟩ pr,I=>by
   have go:∀ s1,Inv X pins (σ.set b.1 (some b.2)) H s1→_:=fun s1 I1=>ZjP (bs:=bs) (σ:=σ.set b.1 (some b.2)) hN pr I1
   exact wpAny_assignInOrder_more (wpAny_bindName (store_ok I hN hi hx r (fun s1 I1=>go s1 I1) hf))
def Zdb:List (Option (List PEl)×TS)→List V→TS
 | [],_=>fun D σ H=>D.nx σ H
 | (none,t) :: _,_=>t
 | (some es,t) :: r,xs=>fun D σ H=>if es.length=xs.length then litOk es xs∧(match pmV es xs with
   | some bs=>t D (ZfW σ bs) H
   | none=>Zdb r xs D σ H)else Zdb r xs D σ H
inductive PCs (X:Cx):List MatchCase→List (Option (List PEl)×TS)→Prop
 | nil:PCs X [] []
 | any {pos:Pos} {body:List YI} {rest:List MatchCase} {t:TS} {r:List (Option (List PEl)×TS)}:PSs X body t→PCs X rest r→PCs X (⟨.MatchAs none none pos,none,body⟩ :: rest) ((none,t) :: r)
 | cons {ps:List Pattern} {pos:Pos} {body:List YI} {rest:List MatchCase} {es:List PEl} {t:TS} {r:List (Option (List PEl)×TS)}:PPt X ps es→ps.findIdx? (·.isStar)=none →
   (ps.all fun p=>p.isWildcard || (p.isStar && p.names.isEmpty))=false→PSs X body t→PCs X rest r→PCs X (⟨.MatchSequence ps pos,none,body⟩ :: rest) ((some es,t) :: r)
theorem ZkN:PCs X [] []:=.nil
theorem ZbV{ps:List Pattern}{pos:Pos}{body:List YI}{rest:List MatchCase}{es:List PEl}{t:TS}{r:List (Option (List PEl)×TS)}(h:PPt X ps es)(b:PSs X body t)(k:PCs X rest r)
  (h1:ps.findIdx? (·.isStar)=none:=by rfl) (h2:(ps.all fun p=>p.isWildcard || (p.isStar && p.names.isEmpty))=false:=by rfl):PCs X (⟨.MatchSequence ps pos,none,body⟩ :: rest) ((some es,t) :: r):=.cons h h1 h2 b k
theorem ZdX:∀ {ps:List Pattern} {es:List PEl},PPt X ps es→ps.length=es.length
 | _,_,.nil=>rfl
 | _,_,.lit h=>by simp[ZdX h]
 | _,_,.cap _ _ _ h=>by simp[ZdX h]
 | _,_,.any h=>by simp[ZdX h]
theorem Zhy{pins:List (YD×Obj)}{σ:L2.St}{H:Hp}{a:YD}{xs:List V}{D:Ends}(hc:X.calm=true)(hN:X.N.Nodup)(hq:SqT X.K H a xs):∀ {cs:List MatchCase} {ts:List (Option (List PEl)×TS)} {s:YH} {b:Bool},PCs X cs ts→Inv X pins σ H s→Zdb ts xs D σ H →
  wpAny (model X.prog X.w) X.A (matchCases cs X.env (.ref a) b) (SP X pins D) X.xe s
 | _,_,_,_,.nil,I,h=>wpAny_matchCases_nil ⟨σ,H,I,h⟩
 | _,_,_,_,.any B _,I,h=>wpAny_matchCases_cons (wpAny_matchPattern_Capture (wpAny_assignInOrder_none (B.run _ _ _ _ _ I h)))
 | _,_,s,_,@PCs.cons _ ps pos body rest es t r P h1 h2 B C,I,h=>by
   obtain⟨its,rv,p,hz⟩:=I.tuple hq
   have hl:=rv.length
   have fit:((its.toArray.size:Nat):Int) < 2 ^ 63:=by
    have:=sizeLine_eq
    simp only[List.size_toArray]
    omega
   unfold Zdb at h
   have pl:=ZdX P
   refine wpAny_matchCases_cons ?_
   by_cases e:es.length=xs.length
   ·rw[if_pos e]at h
    obtain⟨ok,h⟩:=h
    have en:its.toArray.size=ps.length:=by simp; omega
    refine matchSeq_tuple_hit p fit en ?_ h1 h2
    rw[← en]
    refine unpackItems_tuple (I.ok.hd hc) p fun h' hx=>?_
    have I1:Inv X pins σ H { s with heap:=h',toks:=s.toks + 1 + 1 }:=(I.kept (t':=s.toks + 1 + 1) fun b o e=>hx b o (YQ (Heap.lt_size e)) e)
    refine thn (Znk P I1 (by simpa using rv) ok e) fun r' s2 ⟨I2,q⟩=>?_
    cases z:pmV es xs with
    | none =>
      rw[z]at q h
      cases q
      exact Zhy hc hN hq C I2 h
    | some bs =>
      rw[z]at q h
      obtain⟨cs,rfl,pr⟩:=q
      exact thn (ZjP hN pr I2) fun _ s3 I3=>B.run _ _ _ _ _ I3 h
   ·rw[if_neg e]at h
    refine matchSeq_tuple_miss p fit (by simp; omega) ?_ h1 h2
    exact Zhy hc hN hq C (I.tok _) h
def ZjQ(K:YA)(te:TE)(cs:List (Option (List PEl)×TS)):TS:=fun D σ H=>te σ H fun x H1=>∃ a xs,x = .ref a∧SqT K H1 a xs∧Zdb cs xs D σ H1
theorem ZjR{e:Expr}{te:TE}{cases:List MatchCase}{cs:List (Option (List PEl)×TS)}{pos:Pos}(hc:X.calm=true)(hN:X.N.Nodup)(he:PE X e te)(h:PCs X cases cs):PS X (.Match e cases pos) (ZjQ X.K te cs):=by
 refine⟨fun pins s σ H D I hw=>?_⟩
 refine wpAny_Match (thn (he.run pins s σ H _ I hw) fun v s1 ⟨x,H1,I1,r1,q1⟩=>?_)
 obtain⟨a,xs,rfl,hq,q⟩:=q1
 cases r1
 exact Zhy hc hN hq h I1 q
end
structure Blt(mg:Str→Option YG):Prop where
 isinstance:mg "isinstance" = none
 int:mg "int" = none
 bool:mg "bool" = none
 str:mg "str" = none
 len:mg "len" = none
 max:mg "max" = none
 min:mg "min" = none
 range:mg "range" = none
 list:mg "list" = none
 tuple:mg "tuple" = none
 dict:mg "dict" = none
 sorted:mg "sorted" = none
 enumerate:mg "enumerate" = none
theorem Zo:bootBuiltins "isinstance" = some (.builtin "isinstance"):=by decide +kernel
theorem ZoH:bootBuiltins "max" = some (.builtin "max"):=by decide +kernel
theorem ZaG:bootBuiltins "len" = some (.builtin "len"):=by decide +kernel
theorem Ze2:bootBuiltins "int" = some (.type "int"):=by decide +kernel
theorem Zi5:bootBuiltins "bool" = some (.type "bool"):=by decide +kernel
theorem ZkO:bootBuiltins "str" = some (.type "str"):=by decide +kernel
theorem Zc1:bootBuiltins "list" = some (.type "list"):=by decide +kernel
theorem ZjS:bootBuiltins "tuple" = some (.type "tuple"):=by decide +kernel
theorem ZeL:bootBuiltins "dict" = some (.type "dict"):=by decide +kernel
section
variable {X:Cx}
theorem sN(i:Nat){x:Str}{e:Expr}{te:TE}{pos pos':Pos}(hN:X.N.Nodup)(he:PE X e te)(hi:X.N[i]? = some x:=by rfl)(hx:Loc X.env.scope x:=by first | exact Or.inl rfl | exact Or.inr rfl)
  (hs:swapsWith e (some (.Name x pos')) pos.line X.env=pure false:=by rfl) (hf:X.fn x=true∨X.env.scope.names.lookup x=some .local:=by first | exact .inl rfl | exact .inr rfl | assumption) :
  PS X (.Assign [.Name x pos'] e pos) (Xk te (Y4 i)):=ps_set hN hi hx he hs hf
theorem gN(i:Nat){x:Str}{pos:Pos}(hN:X.N.Nodup)(hi:X.N[i]? = some x:=by rfl)(hx:Loc X.env.scope x:=by first | exact Or.inl rfl | exact Or.inr rfl)
  (hf:X.fn x=true∨X.env.scope.names.lookup x=some .local:=by first | exact .inl rfl | exact .inr rfl | assumption):PG X (.Name x pos) (Y4 i):=pg_name hN hi hx hf
theorem cN(i:Nat){n:Str}{pos:Pos}{ps:List Pattern}{es:List PEl}(h:PPt X ps es)(hi:X.N[i]? = some n:=by rfl)(hx:Loc X.env.scope n:=by first | exact Or.inl rfl | exact Or.inr rfl)
  (hf:X.fn n=true∨X.env.scope.names.lookup n=some .local:=by first | exact .inl rfl | exact .inr rfl | assumption):PPt X (.MatchAs none (some n) pos :: ps) (.cap i :: es):=.cap hi hx hf h
def ZjT(K:YA)(tl:TE):TI:=fun σ H R=>tl σ H fun x H1=>∃ a,x = .ref a∧((∃ xs,SqL K H1 a xs)∧R (Itl K a) H1∨(∃ xs,SqT K H1 a xs)∧R (Itt K a) H1)
theorem Zcy{tg l:Expr}{tl:TE}(hl:PE X l tl):PI X tg l (ZjT X.K tl):=by
 refine⟨fun pins s σ H R I h=>?_⟩
 refine thn (hl.run pins s σ H _ I h) fun v s1 ⟨x,H1,I1,r1,q1⟩=>?_
 obtain⟨a,e,q⟩:=q1
 subst e
 cases r1
 rcases q with⟨⟨xs,hq⟩,q⟩ | ⟨⟨xs,hq⟩,q⟩
 ·obtain⟨its,rv,p,hz⟩:=I1.list hq
  refine wpAny_pyIter_list p.isList ?_
  refine⟨s1.heap.objs.size,[s1.heap.objs.size],_,_,H1,rfl,I1.kept (t':=s1.toks) fun b o e=>YL _ e,turn_list a _,⟨_,YM _ rfl,rfl,rfl⟩,fun b hb=>?_,q⟩
  have e:b=s1.heap.objs.size:=by simpa using hb
  subst e
  exact I1.fpOk (YO _) (I1.hok.fresh (YO _))
 ·obtain⟨its,rv,p,hz⟩:=I1.tuple hq
  refine wpAny_pyIter_tuple (show s1.heap.IsTuple a its.toArray from p) ?_
  refine⟨s1.heap.objs.size,[s1.heap.objs.size],_,_,H1,rfl,I1.kept (t':=s1.toks) fun b o e=>YL _ e,turn_tuple a _,⟨_,YM _ rfl,rfl,rfl⟩,fun b hb=>?_,q⟩
  have e:b=s1.heap.objs.size:=by simpa using hb
  subst e
  exact I1.fpOk (YO _) (I1.hok.fresh (YO _))
def Ze3:List V→Hp→VK→Prop:=fun xs H Q=>(∃ i,xs=[.int i]∧Q (.int i) H)∨∃ k,xs=[.bl k]∧Q (.int (if k then 1 else 0)) H
theorem Zgl:CallR X (.type "int") Ze3:=call_int1
def ZoI:List V→Hp→VK→Prop:=fun xs H Q=>∃ i,xs=[.int i]∧i.natAbs.log2 < 1920∧Q (.str (toString i)) H
theorem ZaW:CallR X (.builtin "len") (rLen X.K):=call_len
def rMax2:List V→Hp→VK→Prop:=fun xs H Q=>∃ i j,xs=[.int i,.int j]∧Q (.int (if j > i then j else i)) H
theorem ZoJ(hc:X.calm=true):CallR X (.builtin "max") rMax2:=call_max2 hc
def Zhz(K:YA):List V→Hp→VK→Prop:=fun xs H Q=>∃ p ys,xs=[V.ref p]∧(SqL K H p ys∨SqT K H p ys)∧∀ l,H l=none→Q (V.ref l) (upd H l (HO.lst ys))
theorem ZkP:CallR X (.type "list") (Zhz X.K):=call_list_of
def rJoin(K:YA):V→List V→Hp→VK→Prop:=fun x xs H Q=>∃ a p,∃ ys:List Str,x = .str a∧xs=[.ref p]∧(SqL K H p (ys.map V.str)∨SqT K H p (ys.map V.str)) ∧
   (ys.map (·.length)).sum + ys.length * a.length ≤ 16777216∧Q (.str (Txt.join a ys)) H
theorem Zl9{o e:Expr}{to te:TE}{apos pos:Pos}(ho:PE X o to)(he:PE X e te)(hs:starEach [e] X.env=[(false,eval e X.env)]:=by rfl)(hbase:attributeBase o "join" X.env (eval o X.env)=eval o X.env:=by rfl) (hline:(apos.endLine == pos.line)=true:=by rfl) :
  PE X (.Call (.Attribute o "join" apos) [e] [] pos) (tM1 (rJoin X.K) to te):=pe_join ho he hs hbase hline
def tFS(ts:List TE):TE:=fun σ H Q=>tJs ts Str.empty σ H fun out H1=>Q (.str out) H1
end
section
variable {K:YA} {σ:L2.St} {H:Hp} {Q:VK} {D:Ends}
theorem Zl_{p A B:Prop} [Decidable p] (h:p) (a:A):if decide p=true then A else B:=by rw[decide_eq_true h]; exact iteT a
theorem ZkQ{p A B:Prop} [Decidable p] (h:¬ p) (b:B):if decide p=true then A else B:=by rw[decide_eq_false h]; exact iteF b
theorem ZmX{p A B:Prop} [Decidable p] (h:p) (b:B):if (!decide p)=true then A else B:=by rw[decide_eq_true h]; exact iteF b
theorem ZmY{p A B:Prop} [Decidable p] (h:¬ p) (a:A):if (!decide p)=true then A else B:=by rw[decide_eq_false h]; exact iteT a
theorem Zbx{p A B:Prop} [Decidable p] (ha:p→A) (hb:¬ p→B):if decide p=true then A else B:=by
 by_cases h:p
 ·exact Zl_ h (ha h)
 ·exact ZkQ h (hb h)
theorem ZoK{i j:Int}(h:Q (.int (i + j)) H):rAdd K (.int i) (.int j) H Q:=.inl ⟨i,j,rfl,rfl,h⟩
theorem ZoL{i j:Str}(l:i.length + j.length ≤ YK)(h:Q (.str (i++j)) H):rAdd K (.str i) (.str j) H Q:=.inr (.inl ⟨i,j,rfl,rfl,l,h⟩)
theorem ZkR{a b:YD}{xs ys:List V}(ha:H a=some (.lst xs))(hb:H b=some (.lst ys))(l:xs.length + ys.length ≤ YK)(h:∀ p H',H p=none→Za [] H H'→H' p=some (.lst (xs++ys))→Q (.ref p) H'):rAdd K (.ref a) (.ref b) H Q :=
 .inr (.inr (.inl ⟨a,b,xs,ys,rfl,rfl,ha,hb,l,fun p hp=>h p _ hp (Za.new hp) Y8⟩))
theorem Zif{a b:YD}{xs ys:List V}(ha:SqT K H a xs)(hb:SqT K H b ys)(l:xs.length + ys.length ≤ YK)(h:∀ p H',Za [] H H'→SqT K H' p (xs++ys)→Q (.ref p) H'):rAdd K (.ref a) (.ref b) H Q:=by
 refine .inr (.inr (.inr ⟨a,b,xs,ys,rfl,rfl,ha,hb,l,fun e=>?_,fun _ e=>?_,fun _ _ p hp=>h p _ (Za.new hp) (SqT.of Y8)⟩))
 ·subst e; exact h b H (Za.refl _ _) hb
 ·subst e; exact h a H (Za.refl _ _) (by rw[List.append_nil]; exact ha)
theorem ZoM{a b:Str}(h:Q (.bl (decide (a=b))) H):ZbH K (.str a) (.str b) H Q:=by
 refine .inl ⟨rfl,?_⟩
 have e:decide (V.str a=V.str b)=decide (a=b):=by
  by_cases q:a=b
  ·rw[decide_eq_true q,decide_eq_true (congrArg V.str q)]
  ·rw[decide_eq_false q,decide_eq_false fun z=>q (V.str.inj z)]
 rw[e]; exact h
theorem ZoN{a b:Int}(h:Q (.bl (decide (a=b))) H):ZbH K (.int a) (.int b) H Q:=by
 refine .inl ⟨rfl,?_⟩
 have e:decide (V.int a=V.int b)=decide (a=b):=by
  by_cases q:a=b
  ·rw[decide_eq_true q,decide_eq_true (congrArg V.int q)]
  ·rw[decide_eq_false q,decide_eq_false fun z=>q (V.int.inj z)]
 rw[e]; exact h
theorem Znl{a b:Str}(h:Q (.bl (!decide (a=b))) H):Zie K (.str a) (.str b) H Q:=by
 refine .inl ⟨rfl,?_⟩
 have e:decide (V.str a=V.str b)=decide (a=b):=by
  by_cases q:a=b
  ·rw[decide_eq_true q,decide_eq_true (congrArg V.str q)]
  ·rw[decide_eq_false q,decide_eq_false fun z=>q (V.str.inj z)]
 rw[e]; exact h
theorem Zq3{a b:Int}(h:Q (.bl (!decide (a=b))) H):Zie K (.int a) (.int b) H Q:=by
 refine .inl ⟨rfl,?_⟩
 have e:decide (V.int a=V.int b)=decide (a=b):=by
  by_cases q:a=b
  ·rw[decide_eq_true q,decide_eq_true (congrArg V.int q)]
  ·rw[decide_eq_false q,decide_eq_false fun z=>q (V.int.inj z)]
 rw[e]; exact h
theorem Zki{a:YD}{xs:List V}{i:Int}{v:V}(h:SqT K H a xs)(e:atI xs i=some v)(q:Q v H):rIx K (.ref a) (.int i) H Q:=.inr (.inl ⟨a,xs,i,v,rfl,rfl,h,e,q⟩)
theorem ZaA{a:YD}{xs:List V}{i:Int}{v:V}(h:SqL K H a xs)(e:atI xs i=some v)(q:Q v H):rIx K (.ref a) (.int i) H Q:=.inl ⟨a,xs,i,v,rfl,rfl,h,e,q⟩
theorem Zq4{z:Str}{i:Int}{c:Nat}(l:z.length ≤ YK)(e:atI z.cps.toList i=some c)(q:Q (.str ⟨#[c]⟩) H):rIx K (.str z) (.int i) H Q:=.inr (.inr ⟨z,i,c,rfl,rfl,l,e,q⟩)
theorem Zq5{i:Int}(h:Q (.int i) H):Ze3 [.int i] H Q:=.inl ⟨i,rfl,h⟩
theorem ZoO{b:Bool}(h:Q (.int (if b then 1 else 0)) H):Ze3 [.bl b] H Q:=.inr ⟨b,rfl,h⟩
theorem Zq6{i:Int}(l:i.natAbs.log2 < 1920)(h:Q (.str (toString i)) H):ZoI [.int i] H Q:=⟨i,rfl,l,h⟩
theorem ZcN{a:YD}{xs:List V}(s:SqL K H a xs)(h:Q (.int xs.length) H):rLen K [.ref a] H Q:=⟨_,_,rfl,.inl ⟨xs,s,rfl⟩,h⟩
theorem Zig{a:YD}{xs:List V}(s:SqT K H a xs)(h:Q (.int xs.length) H):rLen K [.ref a] H Q:=⟨_,_,rfl,.inr ⟨xs,s,rfl⟩,h⟩
theorem ZoP{z:Str}(l:z.length ≤ YK)(h:Q (.int z.length) H):rLen K [.str z] H Q:=⟨_,_,rfl,⟨l,rfl⟩,h⟩
theorem Zq7{i j:Int}(h:Q (.int (if j > i then j else i)) H):rMax2 [.int i,.int j] H Q:=⟨i,j,rfl,h⟩
theorem Zi6{a:YD}{xs:List V}(h:SqT K H a xs):TyX K H (.ref a) (.type "tuple"):=by
 rcases h with(h | ⟨o,h⟩) | ⟨o,its,n,hk,hc,_⟩
 ·exact .base (.tup h)
 ·exact .fTuple h
 ·exact .kTuple hk hc
theorem Zgm{x:V}{t n:String}{b:Bool}(ty:TyX K H x (.type t))(k:kitB t n=some b)(q:Q (.bl b) H):rIsi K [x,.ty n] H Q:=⟨x,.ty n,.type t,.type n,b,rfl,.ty n,ty,kit_ty k,q⟩
theorem ZmZ{i:Int}{n:String}{b:Bool}(k:kitB "int" n=some b) (q:Q (.bl b) H):rIsi K [.int i,.ty n] H Q:=Zgm (.base (.int i)) k q
theorem Zm0{i:Bool}{n:String}{b:Bool}(k:kitB "bool" n=some b) (q:Q (.bl b) H):rIsi K [.bl i,.ty n] H Q:=Zgm (.base (.bl i)) k q
theorem Zm1{i:Str}{n:String}{b:Bool}(k:kitB "str" n=some b) (q:Q (.bl b) H):rIsi K [.str i,.ty n] H Q:=Zgm (.base (.str i)) k q
theorem Zm2{a:YD}{xs:List V}{n:String}{b:Bool}(s:SqT K H a xs)(k:kitB "tuple" n=some b) (q:Q (.bl b) H):rIsi K [.ref a,.ty n] H Q:=Zgm (Zi6 s) k q
end
def mkT(K:YA)(xs:List V)(H:Hp)(Q:VK):Prop:=xs.length ≤ YK∧∀ p H2,H p=none→Za [] H H2→SqT K H2 p xs→Q (.ref p) H2
def mkL(xs:List V)(H:Hp)(Q:VK):Prop:=xs.length ≤ YK∧∀ p H2,H p=none→Za [] H H2→H2 p=some (.lst xs)→Q (.ref p) H2
def Zs(K:YA)(t:TA):TE:=fun σ H Q=>t σ H fun xs H1=>mkT K xs H1 Q
def Zbo(t:TA):TE:=fun σ H Q=>t σ H fun xs H1=>mkL xs H1 Q
section
variable {X:Cx}
theorem Zi{es:List Expr}{t:TA}{x1}{pos:Pos}(h:PA X es t):PE X (.Tuple es x1 pos) (Zs X.K t):=by
 refine⟨fun pins s σ H Q I hq=>?_⟩
 refine wpAny_Tuple_spliced (thn (h.run pos pins s σ H _ I hq) fun us s1 ⟨xs,H1,I1,r,z,q⟩=>⟨by rw[← r.length]; exact z,?_⟩)
 have hf:H1 s1.heap.objs.size=none:=I1.hok.fresh (YO _)
 refine⟨.ref s1.heap.objs.size,upd H1 s1.heap.objs.size (.tup xs),I1.laid (t':=s1.toks) (fun b u e=>YL _ e) (YO _) ?_,rfl,q _ _ hf (Za.new hf) (SqT.of Y8)⟩
 exact⟨z,us,r,⟨_,YM _ rfl,rfl,_,rfl⟩⟩
theorem ZM{es:List Expr}{t:TA}{pos:Pos}(h:PA X es t):PE X (.List es pos) (Zbo t):=by
 refine⟨fun pins s σ H Q I hq=>?_⟩
 refine wpAny_List_spliced (thn (h.run pos pins s σ H _ I hq) fun us s1 ⟨xs,H1,I1,r,z,q⟩=>⟨by rw[← r.length]; exact z,?_⟩)
 have hf:H1 s1.heap.objs.size=none:=I1.hok.fresh (YO _)
 refine⟨.ref s1.heap.objs.size,upd H1 s1.heap.objs.size (.lst xs),I1.laid (t':=s1.toks) (fun b u e=>YL _ e) (YO _) ?_,rfl,q _ _ hf (Za.new hf) Y8⟩
 exact⟨z,us,0,r,YM _ rfl⟩
end
section
variable {K:YA} {σ:L2.St} {H:Hp} {Q:VK} {D:Ends}
theorem ZV{xs:List V}(l:xs.length ≤ YK)(h:∀ p H2,H p=none→Za [] H H2→SqT K H2 p xs→Q (.ref p) H2):mkT K xs H Q:=⟨l,h⟩
theorem Zbg{xs:List V}(l:xs.length ≤ YK)(h:∀ p H2,H p=none→Za [] H H2→H2 p=some (.lst xs)→Q (.ref p) H2):mkL xs H Q:=⟨l,h⟩
theorem Ze4{l:YD}{xs:List V}{y:V}(h:H l=some (.lst xs))(z:xs.length < YK)(q:∀ H',Za [l] H H'→H' l=some (.lst (xs++[y]))→Q .non H'):rAppend (.ref l) [y] H Q :=
 ⟨l,xs,y,rfl,rfl,h,z,q _ (Za.put h True.intro) Y8⟩
theorem ZkS{l:YD}{xs:List V}{i:Int}{v:V}{j:Nat}{R:Hp→Prop}(h:H l=some (.lst xs))(e:ixN xs.length i=some j)(q:∀ H',Za [l] H H'→H' l=some (.lst (xs.set j v))→R H'):rSetL (.ref l) (.int i) v H R :=
 ⟨l,xs,i,j,rfl,rfl,h,e,q _ (Za.put h True.intro) Y8⟩
theorem ZjU{p:YD}{xs:List V}(h:SqL K H p xs∨SqT K H p xs)(q:∀ l H',H l=none→Za [] H H'→H' l=some (.lst xs)→Q (.ref l) H'):Zhz K [.ref p] H Q :=
 ⟨p,xs,rfl,h,fun l hl=>q l _ hl (Za.new hl) Y8⟩
theorem ZkT{p:YD}{xs:List V}(h:SqL K H p xs)(q:∀ l H',H l=none→Za [] H H'→SqT K H' l xs→Q (.ref l) H'):kTup K (.ref p) H Q :=
 .inl ⟨p,xs,rfl,h,fun l hl=>q l _ hl (Za.new hl) (SqT.of Y8)⟩
theorem ZoQ{n:Nat}{t:TGs}{a:YD}{xs:List V}{R:L2.St→Hp→Prop}(h:SqT K H a xs)(l:xs.length=n)(q:t xs σ H R):gTup K n t (.ref a) σ H R:=⟨a,xs,rfl,h,l,q⟩
theorem ZsE{t:TG}{u:TGs}{v:V}{r:List V}{R:L2.St→Hp→Prop}(q:t v σ H fun σ' H'=>u r σ' H' R):gCons t u (v :: r) σ H R:=⟨v,r,rfl,q⟩
theorem ZsT{R:L2.St→Hp→Prop}(q:R σ H):gNil [] σ H R:=⟨rfl,q⟩
theorem ZoR{a:YD}{xs:List V}{P:Prop}(h:H a=some (.lst xs))(q:P):tyV K "list" (.ref a) H∧P:=⟨.inl ⟨rfl,xs,SqL.of h⟩,q⟩
theorem ZoS{a:Str}{p:YD}{ys:List Str}(h:SqL K H p (ys.map V.str))(l:(ys.map (·.length)).sum + ys.length * a.length ≤ 16777216)(q:Q (.str (Txt.join a ys)) H):rJoin K (.str a) [.ref p] H Q:=⟨a,p,ys,rfl,rfl,.inl h,l,q⟩
theorem Znm{a:YD}{xs:List V}{P:List V→Prop}(h:SqT K H a xs)(q:P xs):∃ b ys,V.ref a = .ref b∧SqT K H b ys∧P ys:=⟨a,xs,rfl,h,q⟩
end
end M
namespace M
open PySem
inductive Ex where
 | int (i:Int) | nm (n:Str) | of (n a:Str) | bin (s:Bool) (l r:Ex)
 deriving DecidableEq
def opW(s:Bool):Str:=if s then "sum" else "less"
def Ex.d:Ex→PyData
 | .int i=>.int i
 | .nm n=>.tuple [.str "name",.str n]
 | .of n a=>.tuple [.str "of",.str n,.str a]
 | .bin s l r=>.tuple [.str (opW s),l.d,r.d]
inductive Stm where
 | set (n:Str) (e:Ex) | del (n:Str) | shw (e:Ex) | call (e:Ex) | raise
 | imp (m n:Str) | frm (m w n:Str) | star (m:Str)
 | fn (n:Str) (b:List Stm) | ite (e:Ex) (b o:List Stm) | tri (k:Str) (b h:List Stm)
mutual
def Stm.d:Stm→PyData
 | .set n e=>.tuple [.str "set",.str n,e.d]
 | .del n=>.tuple [.str "del",.str n]
 | .shw e=>.tuple [.str "show",e.d]
 | .call e=>.tuple [.str "call",e.d]
 | .raise=>.tuple [.str "raise"]
 | .imp m n=>.tuple [.str "\x69mport",.str m,.str n]
 | .frm m w n=>.tuple [.str "from",.str m,.str w,.str n]
 | .star m=>.tuple [.str "star",.str m]
 | .fn n b=>.tuple [.str "def",.str n,.tuple (blkD b)]
 | .ite e b o=>.tuple [.str "if",e.d,.tuple (blkD b),.tuple (blkD o)]
 | .tri k b h=>.tuple [.str "try",.str k,.tuple (blkD b),.tuple (blkD h)]
def blkD:List Stm→List PyData
 | []=>[]
 | s :: r=>s.d :: blkD r
end
theorem Zby:∀ b:List Stm,blkD b=b.map Stm.d
 | []=>by simp[blkD]
 | s :: r=>by simp[blkD,Zby r]
def Ex.dep:Ex→Nat
 | .bin _ l r=>max l.dep r.dep + 1
 | _=>0
mutual
def Stm.dep:Stm→Nat
 | .fn _ b=>depL b + 1
 | .ite _ b o=>max (depL b) (depL o) + 1
 | .tri _ b h=>max (depL b) (depL h) + 1
 | _=>0
def depL:List Stm→Nat
 | []=>0
 | s :: r=>max s.dep (depL r)
end
def Ex.txt:Ex→Str
 | .int i=>(toString i:String)
 | .nm n=>n
 | .of n a=>n ++ "." ++ a
 | .bin s l r => "(" ++ l.txt++(if s then " + " else " < ")++r.txt ++ ")"
def Stm.head:Stm→Str
 | .set n e => "set " ++ n ++ " = " ++ e.txt
 | .del n => "del " ++ n
 | .shw e => "show" ++ " " ++ e.txt
 | .call e => "call" ++ " " ++ e.txt
 | .raise => "raise"
 | .imp m n => "\x69mport " ++ m ++ " as " ++ n
 | .frm m w n => "from " ++ m ++ " \x69mport " ++ w ++ " as " ++ n
 | .star m => "from " ++ m ++ " \x69mport *"
 | .fn n _ => "def" ++ " " ++ n ++ ":"
 | .ite e _ _ => "if " ++ e.txt ++ ":"
 | .tri k _ _ => "try" ++ " " ++ k ++ ":"
mutual
def Stm.lines(ind:Str):Stm→List Str
 | .fn n b=>[ind++(Stm.fn n b).head]++inner (ind ++ "  ") b
 | .ite e b o=>[ind++(Stm.ite e b o).head]++inner (ind ++ "  ") b++[ind ++ "else:"]++inner (ind ++ "  ") o
 | .tri k b h=>[ind++(Stm.tri k b h).head]++inner (ind ++ "  ") b++[ind ++ "except:"]++inner (ind ++ "  ") h
 | .set n e=>[ind++(Stm.set n e).head]
 | .del n=>[ind++(Stm.del n).head]
 | .shw e=>[ind++(Stm.shw e).head]
 | .call e=>[ind++(Stm.call e).head]
 | .raise=>[ind++Stm.raise.head]
 | .imp m n=>[ind++(Stm.imp m n).head]
 | .frm m w n=>[ind++(Stm.frm m w n).head]
 | .star m=>[ind++(Stm.star m).head]
def inner(ind:Str):List Stm→List Str
 | []=>[ind ++ "pass"]
 | s :: r=>s.lines ind++linesL ind r
def linesL(ind:Str):List Stm→List Str
 | []=>[]
 | s :: r=>s.lines ind++linesL ind r
end
theorem Zkj(ind:Str)(b:List Stm)(h:b≠[]):inner ind b=linesL ind b:=by
 cases b with
 | nil=>exact absurd rfl h
 | cons s r=>simp[inner,linesL]
def Ex.fits:Ex→Prop
 | .int i=>i.natAbs.log2 < 1920
 | .bin _ l r=>l.fits∧r.fits
 | _=>True
mutual
def Stm.fits:Stm→Prop
 | .set _ e=>e.fits∧e.dep < 10
 | .shw e=>e.fits∧e.dep < 10
 | .call e=>e.fits∧e.dep < 10
 | .ite e b o=>(e.fits∧e.dep < 10)∧fitsL b∧fitsL o
 | .fn _ b=>fitsL b
 | .tri _ b h=>fitsL b∧fitsL h
 | _=>True
def fitsL:List Stm→Prop
 | []=>True
 | s :: r=>s.fits∧fitsL r
end
theorem ZhA:∀ {b:List Stm} {i:Nat} {s:Stm},b[i]? = some s→s.dep ≤ depL b
 | [],_,_,e=>by simp at e
 | t :: r,0,s,e=>by simp only[List.getElem?_cons_zero,Option.some.injEq]at e; subst e; simp only[depL]; omega
 | t :: r,i + 1,s,e=>by simp only[List.getElem?_cons_succ]at e; simp only[depL]; have:=ZhA e; omega
def Small(ls:List Str):Prop:=ls.length ≤ 4000∧∀ l∈ls,l.length ≤ 4000
theorem Small.left{a b:List Str}(h:Small (a++b)):Small a:=⟨by have:=h.1; simp at this; omega,fun l m=>h.2 l (by simp[m])⟩
theorem Small.right{a b:List Str}(h:Small (a++b)):Small b:=⟨by have:=h.1; simp at this; omega,fun l m=>h.2 l (by simp[m])⟩
theorem ZjV:∀ {b:List Stm} {i:Nat} {d:PyData},(blkD b)[i]? = some d→∃ s,b[i]? = some s∧d=s.d
 | [],_,_,e=>by simp[blkD]at e
 | t :: r,0,d,e=>by simp only[blkD,List.getElem?_cons_zero,Option.some.injEq]at e; exact⟨t,by simp,e.symm⟩
 | t :: r,i + 1,d,e=>by simp only[blkD,List.getElem?_cons_succ]at e; obtain⟨s,h1,h2⟩:=ZjV e; exact⟨s,by simpa using h1,h2⟩
theorem ZbI(b:List Stm):(blkD b).length=b.length:=by rw[Zby,Yb]
theorem Zq8(x:Str):Str.empty++x=x:=by
 show(⟨#[]++x.cps⟩:Str)=x
 simp
theorem str_len(a b:Str):(a++b).length=a.length + b.length:=Str.length_append a b
theorem ZaF:YK=16777216:=rfl
end M
namespace M
open PySem PySem.Spec PyProof.Rows L2
section
variable {X:Cx}
def Zq9(te:TE):TE:=fun σ H Q=>te σ H fun x H1=>∃ y:Str,x = .str y∧y.length ≤ YK∧Q (.str y) H1
def Zl5(K:YA):R2:=fun x y H Q=>rIn K false x y H Q∨(∃ (c:Nat) (z:Str),x = .str ⟨#[c]⟩∧y = .str z∧Q (.bl (decide (c∈z.cps.toList))) H)
theorem ZkU:OpR X (compareOp .In) (Zl5 X.K):=OpR.or op_in_seq op_in_sign
def ZcI(K:YA):R2:=fun x y H Q=>rIn K true x y H Q∨(∃ (c:Nat) (z:Str),x = .str ⟨#[c]⟩∧y = .str z∧Q (.bl (!decide (c∈z.cps.toList))) H)
theorem Ze5:OpR X (compareOp .NotIn) (ZcI X.K):=OpR.or op_notIn_seq op_notIn_sign
end
theorem Zgc(x:Str):∀ l:List Str,inV (.str x) (l.map V.str)=decide (x∈l)
 | []=>by simp[inV]
 | y :: r=>by
   have ih:=Zgc x r
   have e1:inV (.str x) ((y :: r).map V.str)=(eqV (.str y) (.str x) || inV (.str x) (r.map V.str)):=rfl
   have e2:eqV (.str y) (.str x)=decide (x=y):=by
    show(y == x)=_
    by_cases e:x=y
    ·subst e; simp
    ·have e2:¬ y=x:=fun z=>e z.symm
     simp[e,e2]
   rw[e1,ih,e2]
   simp only[Yn,Bool.decide_or]
theorem flat_strs:∀ l:List Str,(l.map V.str).all flatV=true
 | []=>rfl
 | y :: r=>by simp[flatV,flat_strs r]
section
variable {K:YA} {σ:L2.St} {H:Hp} {Q:VK} {D:Ends}
def csO(o:Option (List (Nat×V)))(t:TS)(D:Ends)(σ:L2.St)(H:Hp)(R:Prop):Prop:=match o with
 | some bs=>t D (ZfW σ bs) H
 | none=>R
def Nx(u:TS)(D:Ends):L2.St→Hp→Prop:=u D
theorem Zq_{t u:TS}(h:t { D with nx:=Nx u D } σ H):Y9 t u D σ H:=h
theorem ZsU{u:TS}(h:u D σ H):Nx u D σ H:=h
theorem ZoT{v:V}:YS 0 (some v :: σ) H Q=Q v H:=by
 apply propext
 constructor
 ·rintro⟨w,e,h⟩; simp at e; subst e; exact h
 ·exact fun h=>⟨v,rfl,h⟩
theorem ZoU{i:Nat}{x:Option V}:YS (i + 1) (x :: σ) H Q=YS i σ H Q:=by
 unfold YS; simp
theorem q_c{v:V}:tC v σ H Q=Q v H:=rfl
theorem ZsV{r:R2}{ta tb:TE}:tOp r ta tb σ H Q=ta σ H fun x H1=>tb σ H1 fun y H2=>r x y H2 Q:=rfl
theorem ZsW{r:V→Hp→VK→Prop}{ta:TE}:tUn r ta σ H Q=ta σ H fun x H1=>r x H1 Q:=rfl
theorem ZsX{r:List V→Hp→VK→Prop}{t:TA}:tCB r t σ H Q=t σ H fun vs H1=>r vs H1 Q:=rfl
theorem ZoV{sp:Sp}{E:XK}{t:TA}:Xm sp [] E t σ H Q=t σ H fun vs H1=>sp vs H1 Q E:=by
 show(t σ H fun vs H1=>sp (vs++[]) H1 Q E)=_
 have e:(fun vs H1=>sp (vs++[]) H1 Q E)=fun vs H1=>sp vs H1 Q E:=by funext vs H1; rw[List.append_nil]
 rw[e]
theorem Zra{R:List V→Hp→Prop}:YZ σ H R=R [] H:=rfl
theorem ZoW{ta:TE}{tr:TA}{R:List V→Hp→Prop}:YT ta tr σ H R=ta σ H fun x H1=>tr σ H1 fun xs H2=>R (x :: xs) H2:=rfl
theorem q_if{c:TT}{ta tb:TE}:tIf c ta tb σ H Q=c σ H fun b H1=>if b=true then ta σ H1 Q else tb σ H1 Q:=rfl
theorem ZoX{t:TE}{R:Bool→Hp→Prop}:Xc t σ H R=t σ H fun x H'=>∃ k,x = .bl k∧R k H':=rfl
theorem ZsY{t:TE}{R:Bool→Hp→Prop}:tB t σ H R=t σ H fun x H1=>∃ c,x = .bl c∧R c H1:=rfl
theorem ZsZ{b:Bool}{P:Bool→Prop}:(∃ k,V.bl b = .bl k∧P k)=P b:=by
 apply propext; constructor
 ·rintro⟨k,e,h⟩; cases e; exact h
 ·exact fun h=>⟨b,rfl,h⟩
theorem Zrb{t u:TT}{R:Bool→Hp→Prop}:tAnd t u σ H R=t σ H fun c H1=>if c=true then u σ H1 R else R false H1:=rfl
theorem Zs0{t u:TT}{R:Bool→Hp→Prop}:tOr t u σ H R=t σ H fun c H1=>if c=true then R true H1 else u σ H1 R:=rfl
theorem Zrc{t:TT}{R:Bool→Hp→Prop}:tNot t σ H R=t σ H fun c H1=>R (!c) H1:=rfl
theorem ZoY{ta tb:TE}:tAndV ta tb σ H Q=ta σ H fun x H1=>∃ c,x = .bl c∧if c=true then tb σ H1 Q else Q (.bl false) H1:=rfl
theorem Zrd{ta tb:TE}:tOrV ta tb σ H Q=ta σ H fun x H1=>∃ c,x = .bl c∧if c=true then Q (.bl true) H1 else tb σ H1 Q:=rfl
theorem ZoZ{ta:TE}:tNotV ta σ H Q=ta σ H fun x H1=>∃ c,x = .bl c∧Q (.bl (!c)) H1:=rfl
theorem q_asg{te:TE}{g:TG}:Xk te g D σ H=te σ H fun x H1=>g x σ H1 D.nx:=rfl
theorem Zs1{i:Nat}{v:V}{R:L2.St→Hp→Prop}:Y4 i v σ H R=R (σ.set i (some v)) H:=rfl
theorem Zre{te:TE}:Xh te D σ H=te σ H D.rt:=rfl
theorem Zo0:tRetN D σ H=D.rt .non H:=rfl
theorem Zrf{c:TT}{t u:TS}:Xi c t u D σ H=c σ H fun b H1=>if b=true then t D σ H1 else u D σ H1:=rfl
theorem q_drop{te:TE}:Xn te D σ H=te σ H fun _ H1=>D.nx σ H1:=rfl
theorem Zo1:Xo D σ H=D.nx σ H:=rfl
theorem Zo2{ta:TE}{k:V→Hp→VK→Prop}:tThen ta k σ H Q=ta σ H fun x H1=>k x H1 Q:=rfl
theorem Zo3{t:TA}:Zs K t σ H Q=t σ H fun xs H1=>mkT K xs H1 Q:=rfl
theorem Zo4{t:TA}:Zbo t σ H Q=t σ H fun xs H1=>mkL xs H1 Q:=rfl
theorem Zrg{to ti:TE}{t:TSet}{v:V}{R:L2.St→Hp→Prop}:gSub to ti t v σ H R=to σ H fun o H1=>ti σ H1 fun i H2=>t o i v H2 fun H3=>R σ H3:=rfl
theorem Zrh{i j:Nat}{ta:TA}:tPar i j ta D σ H=ta σ H fun vs H1=>∃ v w,vs=[v,w]∧D.nx ((σ.set i (some v)).set j (some w)) H1:=rfl
theorem Zo5{x y:V}{P:V→V→Prop}:(∃ v w,[x,y]=[v,w]∧P v w)=P x y:=by
 apply propext; constructor
 ·rintro⟨v,w,e,h⟩; cases e; exact h
 ·exact fun h=>⟨x,y,rfl,h⟩
theorem Zo6{i j l:Nat}{ta:TA}:tPar3 i j l ta D σ H=ta σ H fun vs H1=>∃ u v w,vs=[u,v,w]∧D.nx (((σ.set i (some u)).set j (some v)).set l (some w)) H1:=rfl
theorem Znn{x y z:V}{P:V→V→V→Prop}:(∃ u v w,[x,y,z]=[u,v,w]∧P u v w)=P x y z:=by
 apply propext; constructor
 ·rintro⟨u,v,w,e,h⟩; cases e; exact h
 ·exact fun h=>⟨x,y,z,rfl,h⟩
theorem Zs2{r:V→List V→Hp→VK→Prop}{to te:TE}:tM1 r to te σ H Q=to σ H fun x H1=>(∃ a,x = .str a)∧te σ H1 fun y H2=>r x [y] H2 Q:=rfl
theorem Zno{y:Str}:(∃ z:Str,V.str y = .str z)=True:=eq_true ⟨y,rfl⟩
theorem Zs3{T:String}{r:V→List V→Hp→VK→Prop}{to:TE}{t:TA}:tBM K T r to t σ H Q=to σ H fun x H1=>tyV K T x H1∧t σ H1 fun xs H2=>r x xs H2 Q:=rfl
theorem Zs4{ts:List TE}:tFS ts σ H Q=tJs ts Str.empty σ H fun out H1=>Q (.str out) H1:=rfl
theorem Zs5{t:TE}{ts:List TE}{acc:Str}{R:Str→Hp→Prop}:tJs (t :: ts) acc σ H R=t σ H fun x H1=>∃ y:Str,x = .str y∧(acc++y).length ≤ YK∧tJs ts (acc++y) σ H1 R:=rfl
theorem Zri{acc:Str}{R:Str→Hp→Prop}:tJs [] acc σ H R=R acc H:=rfl
theorem Zrj{y:Str}{P:Str→Prop}:(∃ z:Str,V.str y = .str z∧P z)=P y:=by
 apply propext; constructor
 ·rintro⟨k,e,h⟩; cases e; exact h
 ·exact fun h=>⟨y,rfl,h⟩
theorem Zo7{te:TE}:Zq9 te σ H Q=te σ H fun x H1=>∃ y:Str,x = .str y∧y.length ≤ YK∧Q (.str y) H1:=rfl
theorem Zo8{x:Str}{a:YD}{l:List Str}(h:SqT K H a (l.map V.str))(q:Q (.bl (decide (x∈l))) H):Zl5 K (.str x) (.ref a) H Q:=.inl ⟨a,_,rfl,.inr h,rfl,flat_strs l,by simpa[Zgc]using q⟩
theorem Zo9{x:Str}{a:YD}{l:List Str}(h:SqT K H a (l.map V.str))(q:Q (.bl (!decide (x∈l))) H):ZcI K (.str x) (.ref a) H Q:=.inl ⟨a,_,rfl,.inr h,rfl,flat_strs l,by simpa[Zgc]using q⟩
theorem Zo_{x:Str}{a:YD}{l:List Str}(h:SqL K H a (l.map V.str))(q:Q (.bl (!decide (x∈l))) H):ZcI K (.str x) (.ref a) H Q:=.inl ⟨a,_,rfl,.inl h,rfl,flat_strs l,by simpa[Zgc]using q⟩
theorem Zi7{x a b:Str}{p:YD}(h:SqT K H p [.str a,.str b])(q:Q (.bl (decide (x=a) || decide (x=b))) H):Zl5 K (.str x) (.ref p) H Q :=
 Zo8 (l:=[a,b]) h (by simpa[Bool.decide_or]using q)
theorem Znp{x a b c:Str}{p:YD}(h:SqT K H p [.str a,.str b,.str c])(q:Q (.bl (decide (x=a) || decide (x=b) || decide (x=c))) H):Zl5 K (.str x) (.ref p) H Q :=
 Zo8 (l:=[a,b,c]) h (by simpa[Bool.decide_or,Bool.or_assoc]using q)
theorem q_aug{i:Nat}{te:TE}{ti:TIp}:tAug i te ti D σ H = ∃ x,σ[i]? = some (some x)∧te σ H fun y H1=>ti x y H1 fun z H2=>D.nx (σ.set i (some z)) H2:=rfl
theorem Zrk{v:V}{P:V→Prop}:(∃ x,some (some v)=some (some x)∧P x)=P v:=by
 apply propext; constructor
 ·rintro⟨x,e,h⟩; cases e; exact h
 ·exact fun h=>⟨v,rfl,h⟩
theorem Zpa{tl:TE}{R:It→Hp→Prop}:ZjT K tl σ H R=tl σ H fun x H1=>∃ a,x = .ref a∧((∃ xs,SqL K H1 a xs)∧R (Itl K a) H1∨(∃ xs,SqT K H1 a xs)∧R (Itt K a) H1):=rfl
theorem Zrl{a:YD}{P:YD→Prop}:(∃ b,V.ref a = .ref b∧P b)=P a:=by
 apply propext; constructor
 ·rintro⟨k,e,h⟩; cases e; exact h
 ·exact fun h=>⟨a,rfl,h⟩
theorem Znq{te:TE}{cs:List (Option (List PEl)×TS)}:ZjQ K te cs D σ H=te σ H fun x H1=>∃ a xs,x = .ref a∧SqT K H1 a xs∧Zdb cs xs D σ H1:=rfl
theorem Zrm{R:Bool→Hp→Prop}:tYes σ H R=R true H:=rfl
theorem Zpb{A B:Prop}:(if true=true then A else B)=A:=by simp
theorem Zpc{A B:Prop}:(if false=true then A else B)=B:=by simp
theorem Znr{p q A T:Prop} [Decidable p] [Decidable q] (ha:p→q→A) (t:T):if decide p=true then(if decide q=true then A else T)else T:=by
 by_cases hp:p
 ·refine Zl_ hp ?_
  by_cases hq:q
  ·exact Zl_ hq (ha hp hq)
  ·exact ZkQ hq t
 ·exact ZkQ hp t
theorem Zpd{α : Type}{x y : α}{l:List α}:(x :: l).set 0 y=y :: l:=rfl
theorem Zpe{α : Type}{x y : α}{l:List α}{i:Nat}:(x :: l).set (i + 1) y=x :: l.set i y:=rfl
theorem Ze6:∀ {a b:List Char},a.map Char.toNat=b.map Char.toNat→a=b
 | [],[],_=>rfl
 | [],_ :: _,h=>by simp at h
 | _ :: _,[],h=>by simp at h
 | x :: a,y :: b,h=>by
   simp only[Yr,List.cons.injEq]at h
   rw[Ze6 h.2,Char.ext (UInt32.toNat_inj.mp h.1)]
theorem Zrn{a b:String}:(YN a=YN b)=(a=b):=by
 apply propext; constructor
 ·intro h
  rw[Str.ofString_eq_toList,Str.ofString_eq_toList]at h
  have h2:=congrArg (fun s:Str=>s.cps.toList) h
  simp only at h2
  exact String.toList_inj.mp (Ze6 h2)
 ·exact fun h=>by rw[h]
def Zi8(J:It)(g:TG)(tb:TS)(D:Ends)(σ:L2.St)(H:Hp):Prop:=∃ W:Nat→Nat→L2.St→Hp→Prop,(∃ m,W 0 m σ H)∧∀ i m σ H,W i m σ H →
 (J.stop i H∧D.nx σ H)∨(J.go i H∧∃ N:L2.St→Hp→Prop,(∀ σ' H',N σ' H'→∃ m',m' < m∧W (i + 1) m' σ' H')∧∀ x H',J.yld i H x H'→g x σ H' fun σ2 H2=>tb { D with nx:=N,ct:=N,bk:=D.nx } σ2 H2)
theorem Zpf{wi:TI}{g:TG}{tb:TS}:tFor wi g tb D σ H=wi σ H fun J H1=>Zi8 J g tb D σ H1:=rfl
theorem Zpg{a:YD}{xs:List V}{g:TG}{tb:TS}(Pv:Nat→L2.St→Hp→Prop)(h0:Pv 0 σ H)(hl:∀ i σ H,i ≤ xs.length→Pv i σ H→SqL K H a xs)
  (hs:∀ i x σ H,xs[i]? = some x→Pv i σ H→g x σ H fun σ2 H2=>tb { D with nx:=Pv (i + 1),ct:=Pv (i + 1),bk:=D.nx } σ2 H2) (hd:∀ σ H,Pv xs.length σ H→D.nx σ H):Zi8 (Itl K a) g tb D σ H:=for_list Pv h0 hl hs hd
theorem Zg5{lo:Int}{n:Nat}{g:TG}{tb:TS}(Pv:Nat→L2.St→Hp→Prop)(h0:Pv 0 σ H)
  (hs:∀ i σ H,i < n→Pv i σ H→g (.int (lo + i)) σ H fun σ2 H2=>tb { D with nx:=Pv (i + 1),ct:=Pv (i + 1),bk:=D.nx } σ2 H2) (hd:∀ σ H,Pv n σ H→D.nx σ H):Zi8 (Itr lo n) g tb D σ H:=for_range Pv h0 hs hd
theorem Zph{ta:TA}{R:It→Hp→Prop}:iRng1 ta σ H R=ta σ H fun vs H1=>∃ j:Int,vs=[.int j]∧-(2 ^ 62) ≤ j∧j < 2 ^ 62∧R (Itr 0 j.toNat) H1:=rfl
theorem Zro{i:Int}{P:Int→Prop}:(∃ j,[V.int i]=[.int j]∧P j)=P i:=by
 apply propext; constructor
 ·rintro⟨j,e,h⟩; cases e; exact h
 ·exact fun h=>⟨i,rfl,h⟩
def Zkk(J:It)(g:TG)(tt:TT)(te:TE)(vs:List Nat)(σ:L2.St)(H1:Hp)(Q:VK):Prop:=∀ D,H1 D=none→∃ W:Nat→Nat→Hp→Prop,(∃ m,W 0 m (upd H1 D (.lst [])))∧∀ i m H,W i m H →
 (J.stop i H∧Q (.ref D) H)∨(J.go i H∧∃ Nx:Hp→Prop,(∀ H',Nx H'→∃ m',m' < m∧W (i + 1) m' H')∧∀ x H',J.yld i H x H'→g x (wipe σ vs) H' fun σ2 H2=>wipe σ2 vs=wipe σ vs∧tt σ2 H2 fun b H3 =>
  if b=true then te σ2 H3 fun y H4=>∃ acc,H4 D=some (.lst acc)∧acc.length < YK∧Nx (upd H4 D (.lst (acc++[y])))else Nx H3)
theorem Zs6{wi:TI}{g:TG}{tt:TT}{te:TE}{vs:List Nat}:tLc wi g tt te vs σ H Q=wi σ H fun J H1=>Zkk J g tt te vs σ H1 Q:=rfl
theorem Zgd{J:It}{g:TG}{tt:TT}{te:TE}{vs:List Nat}(n:Nat)(Pv:YD→Nat→Hp→Prop)(h0:∀ D H2,H D=none→Za [] H H2→H2 D=some (.lst [])→Pv D 0 H2)
  (hstop:∀ D H2,Pv D n H2→J.stop n H2) (hgo:∀ D i H2,i < n→Pv D i H2→J.go i H2)
  (hs:∀ D i H2 x H3,H D=none→i < n→Pv D i H2→J.yld i H2 x H3→g x (wipe σ vs) H3 fun σ2 H4=>wipe σ2 vs=wipe σ vs∧tt σ2 H4 fun b H5 =>
   if b=true then te σ2 H5 fun y H6=>∃ acc,H6 D=some (.lst acc)∧acc.length < YK∧Pv D (i + 1) (upd H6 D (.lst (acc++[y])))else Pv D (i + 1) H5)
  (hd:∀ D H2,H D=none→Pv D n H2→Q (.ref D) H2):Zkk J g tt te vs σ H Q:=by
 intro D hD
 refine⟨fun i m H2=>m=n - i∧i ≤ n∧Pv D i H2,⟨n,by simp,YP _,h0 D _ hD (Za.new hD) Y8⟩,?_⟩
 rintro i m H2 ⟨rfl,hi,p⟩
 by_cases hlt:i < n
 ·exact .inr ⟨hgo D i H2 hlt p,Pv D (i + 1),fun H' p'=>⟨n - (i + 1),by omega,rfl,hlt,p'⟩,fun x H3 y=>hs D i H2 x H3 hD hlt p y⟩
 ·have e:i=n:=by omega
  subst e
  exact .inl ⟨hstop D H2 p,hd D H2 hD p⟩
theorem Zrp{σ:L2.St}:wipe σ [] = σ:=rfl
theorem Zrq{σ:L2.St}{v:Nat}{vs:List Nat}:wipe σ (v :: vs)=(wipe σ vs).set v none:=rfl
theorem Zrr{xs:List V}:Zdb [] xs D σ H=D.nx σ H:=rfl
theorem Zrs{t:TS}{r:List (Option (List PEl)×TS)}{xs:List V}:Zdb ((none,t) :: r) xs D σ H=t D σ H:=rfl
theorem Zs7{es:List PEl}{t:TS}{r:List (Option (List PEl)×TS)}{xs:List V}:Zdb ((some es,t) :: r) xs D σ H=if es.length=xs.length then litOk es xs∧csO (pmV es xs) t D σ H (Zdb r xs D σ H)else Zdb r xs D σ H:=by
 conv=>lhs; unfold Zdb
 unfold csO
 cases pmV es xs <;> rfl
theorem Zrt{bs:List (Nat×V)}{t:TS}{R:Prop}:csO (some bs) t D σ H R=t D (ZfW σ bs) H:=rfl
theorem Zru{t:TS}{R:Prop}:csO none t D σ H R=R:=rfl
theorem Zrv{vs:List V}:pmV [] vs=some []:=by unfold pmV; rfl
theorem Zrw{x y:Str}{ps:List PEl}{vs:List V}:pmV (.lit x :: ps) (.str y :: vs)=if y=x then pmV ps vs else none:=by
 rw[pmV]
 by_cases e:y=x
 ·rw[if_pos e,if_pos (congrArg V.str e)]
 ·rw[if_neg e,if_neg fun z=>e (V.str.inj z)]
theorem Zrx{i:Nat}{v:V}{ps:List PEl}{vs:List V}:pmV (.cap i :: ps) (v :: vs)=(pmV ps vs).map ((i,v) :: ·):=by rw[pmV]
theorem Zry{v:V}{ps:List PEl}{vs:List V}:pmV (.any :: ps) (v :: vs)=pmV ps vs:=by rw[pmV]
theorem Zrz{vs:List V}:litOk [] vs=True:=by unfold litOk; rfl
theorem ZrA{x y:Str}{ps:List PEl}{vs:List V}:litOk (.lit x :: ps) (.str y :: vs)=litOk ps vs:=by
 rw[litOk]; exact propext ⟨fun h=>h.2,fun h=>⟨⟨y,rfl⟩,h⟩⟩
theorem ZrB{i:Nat}{v:V}{ps:List PEl}{vs:List V}:litOk (.cap i :: ps) (v :: vs)=litOk ps vs:=by rw[litOk]; intro x h; cases h
theorem ZrC{v:V}{ps:List PEl}{vs:List V}:litOk (.any :: ps) (v :: vs)=litOk ps vs:=by rw[litOk]; intro x h; cases h
theorem ZrD:ZfW σ [] = σ:=rfl
theorem ZrE{i:Nat}{v:V}{bs:List (Nat×V)}:ZfW σ ((i,v) :: bs)=ZfW (σ.set i (some v)) bs:=rfl
theorem Zpi{i j:Int}:rAdd K (.int i) (.int j) H Q=Q (.int (i + j)) H:=by
 apply propext; constructor
 ·rintro(⟨a,b,e1,e2,h⟩ | ⟨a,b,e1,_⟩ | ⟨a,b,_,_,e1,_⟩ | ⟨a,b,_,_,e1,_⟩) <;> cases e1
  cases e2; exact h
 ·exact ZoK
theorem Zpj{i j:Str}:rAdd K (.str i) (.str j) H Q=(i.length + j.length ≤ YK∧Q (.str (i++j)) H):=by
 apply propext; constructor
 ·rintro(⟨a,b,e1,e2,h⟩ | ⟨a,b,e1,e2,h⟩ | ⟨a,b,_,_,e1,_⟩ | ⟨a,b,_,_,e1,_⟩) <;> cases e1
  cases e2; exact h
 ·exact fun h=>ZoL h.1 h.2
theorem Zs8{g:Int→Int→V}{i j:Int}:rI0 g (.int i) (.int j) H Q=Q (g i j) H:=by
 apply propext; constructor
 ·rintro⟨a,b,e1,e2,h⟩; cases e1; cases e2; exact h
 ·exact fun h=>⟨i,j,rfl,rfl,h⟩
theorem q_i{C:Int→Int→Prop}{g:Int→Int→V}{i j:Int}:rI C g (.int i) (.int j) H Q=(C i j∧Q (g i j) H):=by
 apply propext; constructor
 ·rintro⟨a,b,e1,e2,h⟩; cases e1; cases e2; exact h
 ·exact fun h=>⟨i,j,rfl,rfl,h⟩
theorem q_u{g:Int→V}{i:Int}:rU g (.int i) H Q=Q (g i) H:=by
 apply propext; constructor
 ·rintro⟨a,e1,h⟩; cases e1; exact h
 ·exact fun h=>⟨i,rfl,h⟩
theorem dec_str{a b:Str}:decide (V.str a=V.str b)=decide (a=b):=by
 by_cases q:a=b
 ·rw[decide_eq_true q,decide_eq_true (congrArg V.str q)]
 ·rw[decide_eq_false q,decide_eq_false fun z=>q (V.str.inj z)]
theorem dec_int{a b:Int}:decide (V.int a=V.int b)=decide (a=b):=by
 by_cases q:a=b
 ·rw[decide_eq_true q,decide_eq_true (congrArg V.int q)]
 ·rw[decide_eq_false q,decide_eq_false fun z=>q (V.int.inj z)]
theorem ZrF{a b:Str}:ZbH K (.str a) (.str b) H Q=Q (.bl (decide (a=b))) H:=by
 apply propext; constructor
 ·rintro(⟨_,h⟩ | ⟨d,e,hd,he,_,_,h⟩)
  ·rw[dec_str]at h; exact h
  ·cases hd; cases he
   have e:PyData.eqv (.str a) (.str b)=decide (a=b):=by simp[PyData.eqv]; rfl
   rw[e]at h; exact h
 ·exact ZoM
theorem ZrG{a b:Str}:Zie K (.str a) (.str b) H Q=Q (.bl (!decide (a=b))) H:=by
 apply propext; constructor
 ·rintro(⟨_,h⟩ | ⟨d,e,hd,he,_,_,h⟩)
  ·rw[dec_str]at h; exact h
  ·cases hd; cases he
   have e:PyData.eqv (.str a) (.str b)=decide (a=b):=by simp[PyData.eqv]; rfl
   rw[e]at h; exact h
 ·exact Znl
theorem ZrH{a b:Int}:ZbH K (.int a) (.int b) H Q=Q (.bl (decide (a=b))) H:=by
 apply propext; constructor
 ·rintro(⟨_,h⟩ | ⟨d,e,hd,he,_,_,h⟩)
  ·rw[dec_int]at h; exact h
  ·cases hd; cases he
   have e:PyData.eqv (.int a) (.int b)=decide (a=b):=by simp[PyData.eqv]; rfl
   rw[e]at h; exact h
 ·exact ZoN
theorem ZrI{a b:Int}:Zie K (.int a) (.int b) H Q=Q (.bl (!decide (a=b))) H:=by
 apply propext; constructor
 ·rintro(⟨_,h⟩ | ⟨d,e,hd,he,_,_,h⟩)
  ·rw[dec_int]at h; exact h
  ·cases hd; cases he
   have e:PyData.eqv (.int a) (.int b)=decide (a=b):=by simp[PyData.eqv]; rfl
   rw[e]at h; exact h
 ·exact Zq3
theorem Zpk{i:Int}:Ze3 [.int i] H Q=Q (.int i) H:=by
 apply propext; constructor
 ·rintro(⟨a,e,h⟩ | ⟨a,e,h⟩) <;> cases e; exact h
 ·exact Zq5
theorem Zns{b:Bool}:Ze3 [.bl b] H Q=Q (.int (if b then 1 else 0)) H:=by
 apply propext; constructor
 ·rintro(⟨a,e,h⟩ | ⟨a,e,h⟩) <;> cases e; exact h
 ·exact ZoO
theorem Zpl{i:Int}:ZoI [.int i] H Q=(i.natAbs.log2 < 1920∧Q (.str (toString i:String)) H):=by
 apply propext; constructor
 ·rintro⟨a,e,h⟩; cases e; exact h
 ·exact fun h=>Zq6 h.1 h.2
theorem Zpm{i j:Int}:rMax2 [.int i,.int j] H Q=Q (.int (if j > i then j else i)) H:=by
 apply propext; constructor
 ·rintro⟨a,b,e,h⟩; cases e; exact h
 ·exact Zq7
end
open Sem (wp)
open AutoSeq1 (wpAny_loadPart')
section
variable {prog:YE} {w:YF} {A:Around} {E:YG→YH→Prop} {s:YH}
theorem Zkl{it t:YD}{i:Nat}{items:Array YG}{x:YG}{Q:YG→YH→Prop}(hit:s.heap.IsTupleIter it t i)(ht:s.heap.IsTuple t items)(hx:items[i]? = some x)
  (k:∀ h',h'.IsTupleIter it t (i + 1)→Heap.SameBut it s.heap h'→Q x { s with heap:=h' }):wpAny (model prog w) A (Builtin.SmallTypes.nextOf (.ref it)) Q E s:=by
 obtain⟨o,e1,e2,e3⟩:=id hit
 obtain⟨u,f1,_,m,f2⟩:=ht
 unfold Builtin.SmallTypes.nextOf
 refine YB (wpAny_callSpecial?_slot (name:=YN "__next__") hit.typeIs F.slot_tuple_iterator_next (wpAny_call_entry F.slot_tuple_iterator_next hit.typeIs F.entry_tuple_iterator_next ?_ (F.args_tuple_iterator_next_1 _)))
 show wpAny _ _ (field (.ref it) 0 >>= _) _ _ s
 refine YB (wpAny_field e1 e3 (x:=.ref t) rfl ?_)
 show wpAny _ _ (if (Value.ref t == Value.none)=true then _ else _) _ _ s
 rw[if_neg (show ¬ ((Value.ref t == Value.none)=true)from Bool.false_ne_true)]
 show wpAny _ _ (field (.ref it) 1 >>= _) _ _ s
 refine YB (wpAny_field e1 e3 (x:=.int i 0) rfl ?_)
 show wpAny _ _ (seqItems? (.ref t) >>= _) _ _ s
 refine YB (wpAny_seqItems f1 f2 ?_)
 simp only[Int.toNat_natCast,hx]
 refine YB (wpAny_setField e1 e3 (by simp) (YJ ⟨x,rfl,YJ (k _ ?_ (Heap.SameBut.update ..))⟩))
 exact⟨_,Heap.get?_update_self _ e1 (Obj.isFreed_of_fields (Obj.data_mapFields e3 _)),(Obj.cls_mapFields ..).trans e2,by rw[Obj.data_mapFields e3]; simp[rawInt]⟩
theorem ZkV{it t:YD}{i:Nat}{items:Array YG}{Q:YG→YH→Prop}(hh:A.handled=none)(hit:s.heap.IsTupleIter it t i)(ht:s.heap.IsTuple t items)(hx:items[i]? = none)
  (k:∀ h' e,Heap.ExtBut it s.heap h'→(∃ o,h'.get? e=some o∧o.cls = .type "StopIteration")→E (.ref e) { s with heap:=h' }):wpAny (model prog w) A (Builtin.SmallTypes.nextOf (.ref it)) Q E s:=by
 obtain⟨o,e1,e2,e3⟩:=id hit
 obtain⟨u,f1,_,m,f2⟩:=ht
 unfold Builtin.SmallTypes.nextOf
 refine YB (wpAny_callSpecial?_slot (name:=YN "__next__") hit.typeIs F.slot_tuple_iterator_next (wpAny_call_entry F.slot_tuple_iterator_next hit.typeIs F.entry_tuple_iterator_next ?_ (F.args_tuple_iterator_next_1 _)))
 show wpAny _ _ (field (.ref it) 0 >>= _) _ _ s
 refine YB (wpAny_field e1 e3 (x:=.ref t) rfl ?_)
 show wpAny _ _ (if (Value.ref t == Value.none)=true then _ else _) _ _ s
 rw[if_neg (show ¬ ((Value.ref t == Value.none)=true)from Bool.false_ne_true)]
 show wpAny _ _ (field (.ref it) 1 >>= _) _ _ s
 refine YB (wpAny_field e1 e3 (x:=.int i 0) rfl ?_)
 show wpAny _ _ (seqItems? (.ref t) >>= _) _ _ s
 refine YB (wpAny_seqItems f1 f2 ?_)
 simp only[Int.toNat_natCast,hx]
 refine YB (wpAny_rule (YB (wpAny_setField e1 e3 (by simp) ?_)))
 show wpAny _ _ (newExc (.type "StopIteration") [] >>= _) _ _ _
 refine YB ?_
 simp only[newExc,newTuple]
 refine YB (wpAny_newObj_type ?_ (by size_fits))
 refine YB (m:=firstArgMember _ _) (wpAny_of_eq (a:=Value.none) (by first | rfl | (simp only[firstArgMember]; rfl)) ?_)
 refine wpAny_newObj_type ?_ (by size_fits)
 simp only[raiseNew]
 refine YB (wpAny_handled ?_)
 first | rw[show A.in1.handled=none from hh] | rw[hh]
 refine YB (YJ (wpAny_throw ?_))
 exact k _ _ (((Heap.SameBut.update ..).extBut.push _).push _) ⟨_,YM _ rfl,rfl⟩
theorem ZhB{e it t:YD}{i:Nat}{items:Array YG}{x old:YG}{Q:YG→YH→Prop}(he:IsEnum s.heap e it i old)(hit:s.heap.IsTupleIter it t i)(ht:s.heap.IsTuple t items)(hx:items[i]? = some x)(hne:e≠it)
  (k:∀ h',IsEnumOut h' e it ((i:Int) + 1) x s.heap.objs.size→h'.IsTupleIter it t (i + 1)→h'.get? s.heap.objs.size=some { cls:=.type "tuple",data:=.seq #[.int i s.toks,x] }→h'.objs.size=s.heap.objs.size + 1 →
   (∀ b o,b≠e→b≠it→s.heap.get? b=some o→h'.get? b=some o)→Q (.ref s.heap.objs.size) { s with heap:=h',toks:=s.toks + 1 }) :
  wpAny (model prog w) A (Builtin.«enumerate.__next__» ⟨[.ref e],[]⟩) (fun fin s'=>∃ v,fin = .done (.ret v)∧Q v s') E s:=by
 obtain⟨hp,g,d,tk,os⟩:=s
 show wpAny _ _ (field (.ref e) 2 >>= _) _ _ _
 refine YB (wpAny_field he rfl (x:=.ref it) rfl ?_)
 refine YB (Zkl hit ht hx fun ha ia sa=>?_)
 replace sa:Heap.SameBut it hp ha:=sa
 have ea:IsEnum ha e it i old:=(sa.2 e hne).trans he
 show wpAny _ _ (field (.ref e) 3 >>= _) _ _ ⟨ha,g,d,tk,os⟩
 refine YB (wpAny_field ea rfl (x:=rawInt i) rfl ?_)
 show wpAny _ _ (field (.ref e) 4 >>= _) _ _ ⟨ha,g,d,tk,os⟩
 refine YB (wpAny_field ea rfl (x:=.none) rfl ?_)
 show wpAny _ _ (mkInt i >>= _) _ _ ⟨ha,g,d,tk,os⟩
 refine YB (wpAny_mkInt ?_)
 show wpAny _ _ (setField (.ref e) 3 (rawInt ((i:Int) + 1)) >>= _) _ _ ⟨ha,g,d,tk + 1,os⟩
 refine YB (wpAny_setField_rec ea (by simp) fun hb eb sb=>?_)
 replace sb:Heap.SameBut e ha hb:=sb
 replace eb:IsEnum hb e it ((i:Int) + 1) old:=eb
 show wpAny _ _ (setField (.ref e) 4 .none >>= _) _ _ ⟨hb,g,d,tk + 1,os⟩
 refine YB (wpAny_setField_rec eb (by simp) fun hc ec sc=>?_)
 replace sc:Heap.SameBut e hb hc:=sc
 replace ec:IsEnum hc e it ((i:Int) + 1) old:=ec
 show wpAny _ _ (newTuple [.int i tk,x] >>= _) _ _ ⟨hc,g,d,tk + 1,os⟩
 refine YB (wpAny_newTuple ?_)
 have ed:IsEnum (hc.push { cls:=.type "tuple",data:=.seq #[.int i tk,x] }) e it ((i:Int) + 1) old:=YL _ ec
 generalize hhd:hc.push { cls:=.type "tuple",data:=.seq #[.int i tk,x] } = hd at ed
 have hsz:hc.objs.size=hp.objs.size:=by rw[sc.1,sb.1,sa.1]
 have hel:e < hp.objs.size:=Heap.lt_size he
 have td:hd.get? hp.objs.size=some { cls:=.type "tuple",data:=.seq #[.int i tk,x] }:=by rw[← hhd,← hsz]; exact YM _ rfl
 have zd:hd.objs.size=hp.objs.size + 1:=by rw[← hhd,Heap.size_push,hsz]
 have kd:∀ b o,b≠e→b≠it→hp.get? b=some o→hd.get? b=some o:=fun b o n1 n2 q=>by
  rw[← hhd]; exact YL _ (sc.extBut b o n1 (sb.extBut b o n1 (sa.extBut b o n2 q)))
 have idd:hd.IsTupleIter it t (i + 1):=by
  rw[← hhd]; obtain⟨o,ho,r⟩:=(ia.extBut sb.extBut (Ne.symm hne)).extBut sc.extBut (Ne.symm hne); exact⟨o,YL _ ho,r⟩
 show wpAny _ _ (Builtin.SmallTypes.ownedTupleIsFree (.ref e) >>= _) _ _ ⟨hd,g,d,tk + 1,os⟩
 rw[hsz]
 clear hhd ec sc eb sb ea sa ia hsz hc hb ha
 refine YB ?_
 ·unfold Builtin.SmallTypes.ownedTupleIsFree
  refine YB (wpAny_field ed rfl (x:=.none) rfl (YJ ?_))
  simp only[if_true]
  refine YB (wpAny_rule ?_)
  refine YB (wpAny_field ed rfl (x:=old) rfl ?_)
  refine YB (wpAny_setField_rec ed (by simp) fun hf ef sf=>?_)
  replace sf:Heap.SameBut e hd hf:=sf
  replace ef:IsEnum hf e it ((i:Int) + 1) x:=ef
  show wpAny _ _ (Builtin.SmallTypes.ownedTupleHandOut (.ref e) (.ref hp.objs.size) >>= _) _ _ ⟨hf,g,d,tk + 1,os⟩
  refine YB ?_
  ·unfold Builtin.SmallTypes.ownedTupleHandOut
   refine YB (wpAny_setField_rec ef (by simp) fun hg eg sg=>?_)
   replace sg:Heap.SameBut e hf hg:=sg
   replace eg:IsEnumOut hg e it ((i:Int) + 1) x hp.objs.size:=eg
   refine wpAny_setField_rec eg (by simp) fun hi ei si=>?_
   replace si:Heap.SameBut e hg hi:=si
   replace ei:IsEnumOut hi e it ((i:Int) + 1) x hp.objs.size:=ei
   refine YB (wpAny_letGo (YJ ⟨_,rfl,k hi ei ?_ ?_ ?_ ?_⟩))
   ·exact((idd.extBut sf.extBut (Ne.symm hne)).extBut sg.extBut (Ne.symm hne)).extBut si.extBut (Ne.symm hne)
   ·exact si.extBut _ _ (Nat.ne_of_gt hel) (sg.extBut _ _ (Nat.ne_of_gt hel) (sf.extBut _ _ (Nat.ne_of_gt hel) td))
   ·rw[si.1,sg.1,sf.1,zd]
   ·exact fun b o n1 n2 q=>si.extBut b o n1 (sg.extBut b o n1 (sf.extBut b o n1 (kd b o n1 n2 q)))
theorem Zih{e it t:YD}{i:Nat}{items:Array YG}{x old:YG}{Q:Option YG→YH→Prop}(he:IsEnum s.heap e it i old)(hit:s.heap.IsTupleIter it t i)(ht:s.heap.IsTuple t items)(hx:items[i]? = some x)(hne:e≠it)
  (k:∀ h',IsEnumOut h' e it ((i:Int) + 1) x s.heap.objs.size→h'.IsTupleIter it t (i + 1)→h'.get? s.heap.objs.size=some { cls:=.type "tuple",data:=.seq #[.int i s.toks,x] }→h'.objs.size=s.heap.objs.size + 1 →
   (∀ b o,b≠e→b≠it→s.heap.get? b=some o→h'.get? b=some o)→Q (some (.ref s.heap.objs.size)) { s with heap:=h',toks:=s.toks + 1 }):wpAny (model prog w) A (pyNext (.ref e)) Q E s:=by
 have hT:s.TypeIs (.ref e) "enumerate" := ⟨_,he,rfl⟩
 unfold pyNext
 exact YB (wpAny_attempt (wpAny_callSpecial?_slot (name:=YN "__next__") hT F.slot_enumerate_next (wpAny_call_entry F.slot_enumerate_next hT F.entry_enumerate_next
   (ZhB he hit ht hx hne fun h' a b c d q=>YJ (k h' a b c d q)) (F.args_enumerate_next_1 _))))
theorem Zgn{e it t:YD}{i:Nat}{items:Array YG}{old:YG}{Q:Option YG→YH→Prop}(hh:A.handled=none)(he:IsEnum s.heap e it i old)(hit:s.heap.IsTupleIter it t i)(ht:s.heap.IsTuple t items)(hx:items[i]? = none)
  (k:∀ h',Heap.ExtBut it s.heap h'→Q none { s with heap:=h' }):wpAny (model prog w) A (pyNext (.ref e)) Q E s:=by
 have hT:s.TypeIs (.ref e) "enumerate" := ⟨_,he,rfl⟩
 unfold pyNext
 refine YB (wpAny_attempt (wpAny_callSpecial?_slot (name:=YN "__next__") hT F.slot_enumerate_next (wpAny_call_entry F.slot_enumerate_next hT F.entry_enumerate_next ?_ (F.args_enumerate_next_1 _))))
 show wpAny _ _ (field (.ref e) 2 >>= _) _ _ _
 refine YB (wpAny_field he rfl (x:=.ref it) rfl ?_)
 refine YB (ZkV hh hit ht hx fun h' z he' hz=>?_)
 obtain⟨o,ho,hc⟩:=hz
 refine YB (wpAny_isInstance (T := "StopIteration") (b:=true) ⟨o,ho,hc⟩ isSubtype_stop ?_)
 exact YJ (k _ he')
theorem ZkW(t:YD)(items:Array YG)(n:Nat)(dct:Option YD)(sl:Array (Option YG)) :
  Meets (Builtin.«enumerate.__new__» ⟨[.type "enumerate",.ref t],[]⟩) (fun _ R s=>s.heap.get? t=some { cls:=.type "tuple",dict:=dct,data:=.seq items n,slots:=sl } ∧
   R (.ok (.ret (.ref (s.heap.push { cls:=.type "tuple_iterator",data:=.fields #[.ref t,.int 0 0] }).objs.size)))
     { s with heap:=(s.heap.push { cls:=.type "tuple_iterator",data:=.fields #[.ref t,.int 0 0] }).push { cls:=.type "enumerate",data:=.fields #[.none,.bool false,.ref s.heap.objs.size,rawInt 0,.none,.none] } }) :=
 .of_wp fun prog w A R s h=>by
  obtain⟨hp,g,d,tk,os⟩:=s; obtain⟨hl,h⟩:=h
  have hsub:=sub_enumerate
  have hL:Heap.IsTuple (Shared.heap ⟨hp,g,d,tk,os⟩) t items:=⟨_,hl,rfl,n,rfl⟩
  wp_walk using wpAny_loadPart' hl
  refine wpAny_stack_any fun st=>YJ ?_
  split
  ·rename_i c _ _ _ _ _
   cases (c == Value.type "enumerate")
   ·wp_walk using wpAny_loadPart' hl,wpAny_pyIter_tuple hL
    exact⟨_,rfl,h⟩
   ·wp_walk using wpAny_loadPart' hl,wpAny_pyIter_tuple hL
    exact⟨_,rfl,h⟩
  ·wp_walk using wpAny_loadPart' hl,wpAny_pyIter_tuple hL
   exact⟨_,rfl,h⟩
theorem Zkm{t:YD}{items:Array YG}{Q:YG→YH→Prop}(hL:s.heap.IsTuple t items)
  (k:∀ h',IsEnum h' (s.heap.objs.size + 1) s.heap.objs.size 0 .none→h'.IsTupleIter s.heap.objs.size t 0→h'.objs.size=s.heap.objs.size + 2→(∀ b o,s.heap.get? b=some o→h'.get? b=some o)→Q (.ref (s.heap.objs.size + 1)) { s with heap:=h' }) :
  wpAny (model prog w) A (call (.type "enumerate") [.ref t]) Q E s:=by
 obtain⟨⟨c,dct,dt,sl⟩,hl,hc,n,hd⟩:=hL
 replace hc:c = .type "tuple" := hc
 replace hd:dt = .seq items n:=hd
 subst hc hd
 refine callType_new F.called_enumerate (by decide) (F.typeCall_enumerate_1 _) (F.newCall_enumerate_1 _) (fun obj=>F.args_object_init_2 obj _) F.entry_enumerate_new (ZkW t items n dct sl) ⟨hl,?_⟩
 have hz:(s.heap.push { cls:=.type "tuple_iterator",data:=.fields #[.ref t,.int 0 0] }).objs.size=s.heap.objs.size + 1:=Heap.size_push ..
 show _∧_
 rw[hz]
 have he:IsEnum ((s.heap.push { cls:=.type "tuple_iterator",data:=.fields #[.ref t,.int 0 0] }).push { cls:=.type "enumerate",data:=.fields #[.none,.bool false,.ref s.heap.objs.size,rawInt 0,.none,.none] }) (s.heap.objs.size + 1) s.heap.objs.size 0 .none:=by
  have q:=YM (s.heap.push { cls:=.type "tuple_iterator",data:=.fields #[.ref t,.int 0 0] }) (o:={ cls:=.type "enumerate",data:=.fields #[.none,.bool false,.ref s.heap.objs.size,rawInt 0,.none,.none] }) rfl
  rw[hz]at q; exact q
 exact⟨⟨_,he,rfl⟩,k _ he ⟨_,YL _ (YM _ rfl),rfl,rfl⟩ (by rw[Heap.size_push,hz]) fun b o q=>YL _ (YL _ q)⟩
end
def ZqJ(K:YA)(a:YD):It :=
 ⟨fun i H=>∃ (xs:List V) (x:V),SqT K H a xs∧xs[i]? = some x,fun i H v H'=>∃ T x,v = .ref T∧H T=none∧H'=upd H T (.tup [.int (i:Nat),x])∧∀ xs,SqT K H a xs→xs[i]? = some x,fun i H=>∃ xs:List V,SqT K H a xs∧xs.length ≤ i⟩
theorem Zkn{P:YE}{w:YF}{K:YA}{elts:List Expr}{kk:Nat}{tpos:Pos}(a e it:YD) :
  Turn P w K (.Tuple elts kk tpos) (ZqJ K a) [e,it] e (fun i h=>(∃ old,IsEnum h e it ((i:Nat):Int) old)∧h.IsTupleIter it a i∧e≠it) where
 mem:=by simp
 obj:=fun i h st b hb=>by
  obtain⟨⟨old,he⟩,⟨o,ho,hc,hd⟩,_⟩:=st
  have z:b=e∨b=it:=by simpa using hb
  rcases z with rfl | rfl
  ·exact⟨_,he,fun v q=>nomatch q⟩
  ·exact⟨o,ho,fun v q=>by rw[hd]at q; cases q⟩
 keep:=fun i h h' st k=>let ⟨⟨old,he⟩,hi,hne⟩:=st; ⟨⟨old,k e (by simp) _ he⟩,hi.at fun o q=>k it (by simp) o q,hne⟩
 item:=by
  intro X hP hw hK hc i pins s σ H E I hf st hg
  subst hP hw hK
  obtain⟨⟨old,he⟩,hit,hne⟩:=st
  obtain⟨xs,x,hq,hx⟩:=hg
  obtain⟨its,rv,p,hz⟩:=I.tuple hq
  obtain⟨u,hu,ru⟩:=rv.get hx
  have hel:e < s.heap.objs.size:=Heap.lt_size he
  have hil:it < s.heap.objs.size:=by obtain⟨_,q,_⟩:=hit; exact Heap.lt_size q
  refine Zih he hit (show s.heap.IsTuple a its.toArray from p) (x:=u) (by simpa using hu) hne fun h' ho hit' hT hsz hk=>?_
  refine⟨_,rfl,wpAny_letOwnedTupleGo_enum (s:={ s with heap:=h',toks:=s.toks + 1 }) ho fun h2 he2 sb=>?_⟩
  have hT2:h2.get? s.heap.objs.size=some { cls:=.type "tuple",data:=.seq #[.int i s.toks,u] }:=(sb.2 _ (Nat.ne_of_gt hel)).trans hT
  have new:ObjOk X.prog X.w (upd H s.heap.objs.size (.tup [.int (i:Nat),x])) h2 s.heap.objs.size (.tup [.int (i:Nat),x]) :=
   ⟨by show 2 ≤ YK; decide,[.int i s.toks,u],.cons ⟨_,rfl⟩ (.cons ru .nil),⟨_,hT2,rfl,_,rfl⟩⟩
  have I1:Inv X pins σ (upd H s.heap.objs.size (.tup [.int (i:Nat),x])) { s with heap:=h2,toks:=s.toks + 1 } :=
   I.turnedNew (ch:=[e,it]) (fun b ob hb q=>(sb.2 b (fun z=>hb (by simp[z]))).trans (hk b ob (fun z=>hb (by simp[z])) (fun z=>hb (by simp[z])) q)) hf (YO _) new
  refine⟨.ref s.heap.objs.size,_,I1,rfl,⟨_,x,rfl,I.hok.fresh (YO _),rfl,fun ys hy=>by rw[I.tuple_inj hy hq]; exact hx⟩,⟨⟨u,?_⟩,hit'.at fun o q=>(sb.2 it (Ne.symm hne)).trans q,hne⟩,fun b hb=>?_⟩
  ·rw[show((i + 1:Nat):Int)=(i:Int) + 1 by omega]; exact he2
  ·have hb':b < s.heap.objs.size:=by
    have z:b=e∨b=it:=by simpa using hb
    rcases z with rfl | rfl
    ·exact hel
    ·exact hil
   rw[upd_ne (YQ hb')]
   exact(hf b hb).1
 done:=by
  intro X hP hw hK hc i pins s σ H E I hf st hg
  subst hP hw hK
  obtain⟨⟨old,he⟩,hit,hne⟩:=st
  obtain⟨xs,hq,hx⟩:=hg
  obtain⟨its,rv,p,hz⟩:=I.tuple hq
  obtain⟨f0,f1,f2,f3,f4,f5⟩:=hf it (by simp)
  have hl:=rv.length
  exact Zgn (I.ok.hd hc) he hit (show s.heap.IsTuple a its.toArray from p) (by simp; omega) fun h' eb=>⟨rfl,I.turned (t':=s.toks) (fun b o hb q=>eb b o hb q) f0 f1 f3 f4 f5⟩
 self:=fun A i s Q E st h=>let ⟨⟨_,he⟩,_⟩:=st; wpAny_pyIter_enum he h
def Zii(K:YA)(ta:TA):TI:=fun σ H R=>ta σ H fun vs H1=>∃ a,vs=[.ref a]∧((∃ xs,SqL K H1 a xs)∧R (Ite K a) H1∨(∃ xs,SqT K H1 a xs)∧R (ZqJ K a) H1)
theorem ZhC{X:Cx}{e:Expr}{ta:TA}{p pos tpos:Pos}{elts:List Expr}{kk:Nat}(hg:Gl X "enumerate") (hm:X.mg "enumerate" = none) (ha:PA X [e] ta) (hs:starEach [e] X.env=[(false,eval e X.env)]:=by rfl) :
  PI X (.Tuple elts kk tpos) (.Call (.Name "enumerate" p) [e] [] pos) (Zii X.K ta):=by
 refine⟨fun pins s σ H R I h=>?_⟩
 refine Call_ (ld_blt I hg hm boot_enumerate (PyProof.Rows.callWith_type1 (thn (ha.run pos pins s σ H _ I h) fun us s1 ⟨vs,H1,I1,r1,q1⟩=>?_) hs rfl))
 obtain⟨a,ex,q1⟩:=q1
 subst ex
 cases r1 with
 | cons r rr =>
   cases rr
   cases r
   have fp:∀ b∈[s1.heap.objs.size + 1,s1.heap.objs.size],FpOk X pins H1 b:=fun b hb=>by
    have hle:s1.heap.objs.size ≤ b:=by
     have z:b=s1.heap.objs.size + 1∨b=s1.heap.objs.size:=by simpa using hb
     omega
    exact I1.fpOk hle (I1.hok.fresh hle)
   rcases q1 with⟨⟨xs,hq⟩,q⟩ | ⟨⟨xs,hq⟩,q⟩
   ·obtain⟨its,rv,p',hz⟩:=I1.list hq
    refine call_enumerate_list p'.isList fun h' he hit hsz hk=>wpAny_pyIter_enum he ?_
    exact⟨s1.heap.objs.size + 1,_,_,_,H1,rfl,I1.kept (t':=s1.toks) hk,turn_enum a (s1.heap.objs.size + 1) s1.heap.objs.size,⟨⟨.none,he⟩,hit,Nat.succ_ne_self _⟩,fp,q⟩
   ·obtain⟨its,rv,p',hz⟩:=I1.tuple hq
    refine Zkm (show s1.heap.IsTuple a its.toArray from p') fun h' he hit hsz hk=>wpAny_pyIter_enum he ?_
    exact⟨s1.heap.objs.size + 1,_,_,_,H1,rfl,I1.kept (t':=s1.toks) hk,Zkn a (s1.heap.objs.size + 1) s1.heap.objs.size,⟨⟨.none,he⟩,hit,Nat.succ_ne_self _⟩,fp,q⟩
section
variable {K:YA} {σ:L2.St} {H:Hp} {Q:VK} {D:Ends}
theorem Zpn{ta:TA}{R:It→Hp→Prop}:Zii K ta σ H R=ta σ H fun vs H1=>∃ a,vs=[.ref a]∧((∃ xs,SqL K H1 a xs)∧R (Ite K a) H1∨(∃ xs,SqT K H1 a xs)∧R (ZqJ K a) H1):=rfl
theorem Znt{r r':R2}{ta tb tc:TE}:tChain r r' ta tb tc σ H Q=ta σ H fun x H1=>tb σ H1 fun y H2=>r x y H2 fun z H3=>∃ k,z = .bl k∧(if k=true then tc σ H3 fun w' H4=>r' y w' H4 Q else Q (.bl false) H3):=rfl
theorem Zpo{te:TE}{R:It→Hp→Prop}:iStr te σ H R=te σ H fun v H1=>∃ x,v = .str x∧R (Its x) H1:=rfl
theorem Zpp{y:Str}{P:Str→Prop}:(∃ x,V.str y = .str x∧P x)=P y:=by
 apply propext; constructor
 ·rintro⟨j,e,h⟩; cases e; exact h
 ·exact fun h=>⟨y,rfl,h⟩
theorem Zma{x y:V}{d e:PyData}(hx:Dp K H x d)(hy:Dp K H y e)(sd:SeqAt.shaped d=true)(se:SeqAt.shaped e=true)(q:Q (.bl (PyData.eqv d e)) H):ZbH K x y H Q:=.inr ⟨d,e,hx,hy,sd,se,q⟩
theorem Zpq{x y:V}{d e:PyData}(hx:Dp K H x d)(hy:Dp K H y e)(sd:SeqAt.shaped d=true)(se:SeqAt.shaped e=true)(q:Q (.bl (!PyData.eqv d e)) H):Zie K x y H Q:=.inr ⟨d,e,hx,hy,sd,se,q⟩
theorem Zpr{a:YD}{P:YD→Prop}:(∃ b,[V.ref a]=[.ref b]∧P b)=P a:=by
 apply propext; constructor
 ·rintro⟨j,e,h⟩; cases e; exact h
 ·exact fun h=>⟨a,rfl,h⟩
theorem loop_gen{J:It}{g:TG}{tb:TS}(n:Nat)(Pv:Nat→L2.St→Hp→Prop)(h0:Pv 0 σ H)(hstop:∀ σ H,Pv n σ H→J.stop n H)(hgo:∀ i σ H,i < n→Pv i σ H→J.go i H)
  (hs:∀ i σ H x H',i < n→Pv i σ H→J.yld i H x H'→g x σ H' fun σ2 H2=>tb { D with nx:=Pv (i + 1),ct:=Pv (i + 1),bk:=D.nx } σ2 H2) (hd:∀ σ H,Pv n σ H→D.nx σ H):Zi8 J g tb D σ H:=by
 refine⟨fun i m σ H=>m=n - i∧i ≤ n∧Pv i σ H,⟨n,by simp,YP _,h0⟩,?_⟩
 rintro i m σ H ⟨rfl,hi,p⟩
 by_cases hlt:i < n
 ·exact .inr ⟨hgo i σ H hlt p,Pv (i + 1),fun σ' H' p'=>⟨n - (i + 1),by omega,rfl,hlt,p'⟩,fun x H' y=>hs i σ H x H' hlt p y⟩
 ·have e:i=n:=by omega
  subst e
  exact .inl ⟨hstop σ H p,hd σ H p⟩
theorem ZkX{a:YD}{xs:List V}{g:TG}{tb:TS}(Pv:Nat→L2.St→Hp→Prop)(h0:Pv 0 σ H)(hl:∀ i σ H,i ≤ xs.length→Pv i σ H→SqT K H a xs)
  (hs:∀ i x T σ H H',xs[i]? = some x→Pv i σ H→Za [] H H'→SqT K H' T [.int (i:Nat),x]→g (.ref T) σ H' fun σ2 H2=>tb { D with nx:=Pv (i + 1),ct:=Pv (i + 1),bk:=D.nx } σ2 H2) (hd:∀ σ H,Pv xs.length σ H→D.nx σ H):Zi8 (ZqJ K a) g tb D σ H:=by
 refine loop_gen xs.length Pv h0 (fun σ H p=>⟨xs,hl _ σ H (YO _) p,YO _⟩) (fun i σ H hi p=>⟨xs,xs[i],hl i σ H (by omega) p,by simp[hi]⟩) ?_ hd
 rintro i σ H x H' hi p ⟨T,y,rfl,hT,rfl,hy⟩
 exact hs i y T σ H _ (hy xs (hl i σ H (by omega) p)) p (Za.new hT) (SqT.of Y8)
theorem Znu{a:YD}{xs:List V}{g:TG}{tb:TS}(Pv:Nat→L2.St→Hp→Prop)(h0:Pv 0 σ H)(hl:∀ i σ H,i ≤ xs.length→Pv i σ H→SqL K H a xs)
  (hs:∀ i x T σ H H',xs[i]? = some x→Pv i σ H→Za [] H H'→SqT K H' T [.int (i:Nat),x]→g (.ref T) σ H' fun σ2 H2=>tb { D with nx:=Pv (i + 1),ct:=Pv (i + 1),bk:=D.nx } σ2 H2) (hd:∀ σ H,Pv xs.length σ H→D.nx σ H):Zi8 (Ite K a) g tb D σ H:=by
 refine loop_gen xs.length Pv h0 (fun σ H p=>⟨xs,hl _ σ H (YO _) p,YO _⟩) (fun i σ H hi p=>⟨xs,xs[i],hl i σ H (by omega) p,by simp[hi]⟩) ?_ hd
 rintro i σ H x H' hi p ⟨T,y,rfl,hT,rfl,hy⟩
 exact hs i y T σ H _ (hy xs (hl i σ H (by omega) p)) p (Za.new hT) (SqT.of Y8)
end
end M
namespace M
open PySem PySem.Spec PyProof.Rows L2
structure Ztn(K:YA)(w:YF)(d:YD)(kvs:List (Str×Str)):Prop where
 dict:∃ es n,KDict K w d es n
 has:∀ p∈kvs,∃ u,PySem.W.nsIn K d p.1=some (some u)∧RelV (.str p.2) u
 not:∀ x:Str,(∀ p∈kvs,p.1≠x)→PySem.W.nsIn K d x=some none
def Zs9(d:YD)(kvs:List (Str×Str)):R2:=fun x y H Q=>∃ z:Str,x = .str z∧y = .ref d∧Q (.bl (kvs.any fun p=>decide (p.1=z))) H
section
variable {X:Cx}
end
section
variable {K:YA} {σ:L2.St} {H:Hp} {Q:VK} {D:Ends}
theorem ZrJ{d:YD}{kvs:List (Str×Str)}{z:Str}:Zs9 d kvs (.str z) (.ref d) H Q=Q (.bl (kvs.any fun p=>decide (p.1=z))) H:=by
 apply propext; constructor
 ·rintro⟨z',e,_,h⟩; cases e; exact h
 ·exact fun h=>⟨z,rfl,rfl,h⟩
end
def Zij(b:List Stm):Prop:=SeqAt.shaped (.tuple (blkD b))=true
theorem Zaz(d:PyData):SeqAt.shaped d=true↔d.canLay0=true∧d.depth ≤ 64:=by
 unfold SeqAt.shaped; simp
theorem ZkY(ds:List PyData):SeqAt.shaped (.tuple ds)=true↔(∀ d∈ds,d.canLay0=true∧d.depth ≤ 63):=by
 rw[Zaz]
 simp only[PyData.canLay0,PyData.depth]
 have h1:∀ l:List PyData,PyData.canLayAll0 l=true↔∀ d∈l,d.canLay0=true:=by
  intro l
  induction l with
  | nil=>simp[PyData.canLayAll0]
  | cons x r ih=>simp[PyData.canLayAll0,ih]
 have h2:∀ (l:List PyData) (n:Nat),PyData.depthAll l ≤ n↔∀ d∈l,d.depth ≤ n:=by
  intro l n
  induction l with
  | nil=>simp[PyData.depthAll]
  | cons x r ih =>
    simp only[PyData.depthAll,Yn,forall_eq_or_imp,← ih]
    omega
 rw[h1,show PyData.depthAll ds + 1 ≤ 64↔PyData.depthAll ds ≤ 63 by omega,h2]
 constructor
 ·exact fun h d m=>⟨h.1 d m,h.2 d m⟩
 ·exact fun h=>⟨fun d m=>(h d m).1,fun d m=>(h d m).2⟩
theorem Zij.get{b:List Stm}(h:Zij b){i:Nat}{s:Stm}(e:b[i]? = some s):SeqAt.shaped s.d=true:=by
 have m:s.d∈blkD b:=by rw[Zby]; exact Yv (Yj e)
 have h2:=(ZkY (blkD b)).mp h _ m
 exact(Zaz _).mpr ⟨h2.1,by omega⟩
theorem Ze7(a:List Str)(x:Str):(a++[x]).map V.str=a.map V.str++[V.str x]:=by simp
end M
namespace PySem
namespace MXP
open PySem.W PyProof.Rows
section
variable {M:Model} {A:Around} {E:YG→YH→Prop} {h:Heap} {g:Array GenState} {d:Drawn} {t:Nat} {os:OsState}
variable {nm q:Str} {C N:YD} {bs bm bmB:List YG} {hdct:Bool} {sn:List Str} {sub:List YG} {ab:Bool} {col:Option Bool} {dd:Option YD} {k0 k1 k2 k3 k5:Option YG} {B newId initId:String}
theorem Zik(F:ExcBaseFacts B newId initId bmB)(hT:∀ X:String,bm.contains (.type X)=bmB.contains (.type X)){rest:List YG}{kw:List (Str×YG)}{Q:Unit→YH→Prop}
  (hC:h.get? C=some (excClassObj nm q C N bs bm hdct sn sub ab col dd k0 k1 k2 k3 k5 newId)) (hq:Q () ⟨h,g,d,t,os⟩):wpAny M A (checkBuiltinCall newId ⟨.ref C :: rest,kw⟩) Q E ⟨h,g,d,t,os⟩:=by
 have hcont:(Value.ref C :: bm).contains (.type B)=true:=by rw[List.contains_cons,hT,F.hasB,Bool.or_true]
 have hstar:=F.noStar
 simp only[checkBuiltinCall,F.newKind,F.newSplit,F.newRow]
 repeat (first | refine wpAny_loadPart_at hC ?_ | (refine wpAny_isSubtype_exc hC ?_; rw[hcont]) | refine wpAny_staticBase_exc hC ?_ | refine wpAny_madeBy_exc hC ?_ | simp only[bne_self_eq_false,Bool.false_eq_true,if_false] | wp_step)
 exact hq
end
section
variable {prog:YE} {w:YF} {A:Around} {E:YG→YH→Prop} {R:Result→YH→Prop} {h:Heap} {g:Array GenState} {d:Drawn} {t:Nat} {os:OsState}
variable {nm q:Str} {C N:YD} {bs bm bmB:List YG} {hdct:Bool} {sn:List Str} {sub:List YG} {ab:Bool} {col:Option Bool} {dd:Option YD} {k0 k1 k2 k3 k5:Option YG} {B newId initId:String}
theorem Zps(F:ExcBaseFacts B newId initId bmB)(hT:∀ X:String,bm.contains (.type X)=bmB.contains (.type X)){rest:List YG}{kw:List (Str×YG)}
  (hC:h.get? C=some (excClassObj nm q C N bs bm hdct sn sub ab col dd k0 k1 k2 k3 k5 newId))
  (hq:R (.ok (.ret (.ref (h.objs.size + 1)))) ⟨(h.push { cls:=.type "tuple",data:=.seq rest.toArray }).push
   { cls:=.ref C,data:=.fields #[.ref h.objs.size,.none,.none,.none,.bool false,.none] },g,d,t,os⟩) (hrest:rest.length ≤ YK) :
  codeAny (model prog w) A (.builtin newId ⟨.ref C :: rest,kw⟩) R ⟨h,g,d,t,os⟩:=by
 have hends:=F.ends
 have hcB:(Value.ref C :: bm).contains (.type B)=true:=by rw[List.contains_cons,hT,F.hasB,Bool.or_true]
 have hcA:(Value.ref C :: bm).contains (.type "AttributeError")=false:=by rw[List.contains_cons,hT,F.noAttr]; rfl
 have hcN:(Value.ref C :: bm).contains (.type "NameError")=false:=by rw[List.contains_cons,hT,F.noName]; rfl
 refine codeAny_builtinAt F.entry ?_
 unfold Builtin.«BaseException.__new__»
 refine wpAt_bind ?_
 show wpAt _ _ _ (stack >>= _) _ _ _
 refine wpAt_bind (wpAt_stack fun p below=>wpAt_of_wpAny ?_)
 wp_walk
 refine wpAt_of_wpAny ?_
 rw[F.owner]
 repeat (first | with_reducible refine wpAny_madeHere_exc F.canon hC ?_ | with_reducible refine wpAny_loadPart_at hC ?_ | (with_reducible refine wpAny_isSubtype_exc hC ?_; first | rw[hcB] | rw[hcA] | rw[hcN]) | wp_step)
 show R _ _
 rw[Heap.size_push]
 exact hq
theorem Zil(F:ExcBaseFacts B newId initId bmB)(hT:∀ X:String,bm.contains (.type X)=bmB.contains (.type X)){rest:List YG}{kw:List (Str×YG)}{fI:YD}{Q:Fin→YH→Prop}
  (hC:h.get? C=some (excClassObj nm q C N bs bm hdct sn sub ab col dd k0 k1 k2 k3 k5 newId))
  (hi:W.Looks (model prog w) h (typeLookup (.ref C) "__init__") (some (.ref fI))) (hb:∀ self,W.Looks (model prog w) h (bindSpecial (.ref fI) self) (.ref fI,[self])) (hrest:rest.length ≤ YK)
  (hq:codeAny (model prog w) A (.call (.ref fI) ⟨.ref (h.objs.size + 1) :: rest,kw⟩)
   (fun r s'=>match r with | .ok (.ret v)=>v = .none∧Q (.done (.ret (.ref (h.objs.size + 1)))) s' | .ok _=>False | .error e=>E e s')
   ⟨(h.push (W.kdv_tup rest)).push (PySem.HandSPX.excO C h.objs.size),g,d,t,os⟩) :
  wpAny (model prog w) A (Builtin.«type.__call__» ⟨.ref C :: rest,kw⟩) Q E ⟨h,g,d,t,os⟩:=by
 repeat (first | with_reducible refine wpAny_loadPart_at hC ?_ | with_reducible refine wpAny_madeBy_exc hC ?_ | wp_step)
 refine codeAny_call_builtin_code (Code.quiet_builtin _ F.quiet) (Zik F hT hC ?_)
 refine Zps F hT hC ?_ hrest
 show wpAny _ _ _ _ _ _
 have k:∀ b o,h.get? b=some o→((h.push (W.kdv_tup rest)).push (PySem.HandSPX.excO C h.objs.size)).get? b=some o:=fun b o e=>YL _ (YL _ e)
 have hC₁:=k _ _ hC
 have hget:((h.push (W.kdv_tup rest)).push (PySem.HandSPX.excO C h.objs.size)).get? (h.objs.size + 1)=some (PySem.HandSPX.excO C h.objs.size):=by heap_get
 have hcC:(Value.ref C :: bm).contains (.ref C)=true:=by simp
 have i1:=hi.keeps k
 have b1:=(hb (.ref (h.objs.size + 1))).keeps k
 unfold isInstance
 repeat (first | with_reducible refine wpAny_loadPart_at hget ?_ | (with_reducible refine wpAny_isSubtype_exc hC₁ ?_; rw[hcC]) | wp_step)
 show wpAny _ _ (typeLookup (.ref C) _) _ _ _
 refine i1.at ?_
 refine wpAny_holding (YB (b1.at ?_))
 refine YB (wpAny_call (codeAny_mono hq fun r s' z=>?_))
 rcases r with e | (v | _ | _ | _) <;> first | exact z | exact z.elim | skip
 obtain⟨rfl,z⟩:=z
 first
  | exact YJ (YJ z)
  | (wp_walk; exact z)
theorem call_kw(F:ExcBaseFacts B newId initId bmB)(hT:∀ X:String,bm.contains (.type X)=bmB.contains (.type X)){rest:List YG}{kw:List (Str×YG)}{fI:YD}
  (hC:h.get? C=some (excClassObj nm q C N bs bm hdct sn sub ab col dd k0 k1 k2 k3 k5 newId))
  (hi:W.Looks (model prog w) h (typeLookup (.ref C) "__init__") (some (.ref fI))) (hb:∀ self,W.Looks (model prog w) h (bindSpecial (.ref fI) self) (.ref fI,[self])) (hrest:rest.length ≤ YK)
  (hq:codeAny (model prog w) (A.under (.builtin "type.__call__" ⟨.ref C :: rest,kw⟩)) (.call (.ref fI) ⟨.ref (h.objs.size + 1) :: rest,kw⟩) (W.InitBack (h.objs.size + 1) R)
   ⟨(h.push (W.kdv_tup rest)).push (PySem.HandSPX.excO C h.objs.size),g,d,t,os⟩) :
  codeAny (model prog w) A (.call (.ref C) ⟨rest,kw⟩) R ⟨h,g,d,t,os⟩:=by
 have f1:=tc_lookup
 have f2:=tc_bind (.ref C)
 have hTy:(⟨h,g,d,t,os⟩:YH).TypeIs (.ref C) "type" := ⟨_,hC,rfl⟩
 refine codeAny_of_tree ?_
 show wpAny _ _ (callAny (.ref C) _) _ _ _
 repeat (any_goals (first | assumption | with_reducible refine wpAny_loadPart_at hC ?_ | wp_step))
 refine⟨rfl,?_⟩
 refine codeAny_call_builtin_at (Code.quiet_builtin _ (by decide +kernel)) entry_typeCall (wpAny_check_type_call_sub hC (Zil F hT hC hi hb hrest ?_))
 refine codeAny_mono hq fun r s' z=>?_
 rcases r with e | (v | _ | _ | _) <;> exact z
end
end MXP
end PySem
namespace M
open PySem PySem.Spec PyProof.Rows L2
structure Zi9(N P:List Str)(sc:Scope):Prop where
 kind:sc.kind = .function
 co:sc.isCoroutine=false
 gen:sc.isGenerator=false
 nd:N.Nodup
 pre:N.take P.length=P
 par:∀ x∈P,sc.names.lookup x=some .local
 nocell:∀ y∈sc.names,y.2≠.cell
 free:∀ y∈sc.names,y.2 = .free→y.1 = "__class__"
abbrev Zm3(qual:Str)(scope:Scope)(L f:YD)(cd:YG)(cc:YD):Env:=PySem.W.envX qual scope L f cd [("__class__",cc)]
def cxS(CX:CXT)(P:YE)(w:YF)(K:YA)(mg:Str→Option YG)(base:Heap)(N:List Str)(qual:Str)(scope:Scope)(f:YD)(cd:YG)(cc:YD)(A:Around)(outer:List Env)(s:YH)(H:Hp)(E:XK):Cx where
 prog:=P
 w:=w
 K:=K
 mg:=mg
 base:=base
 A:=A.deeper (Zm3 qual scope s.heap.objs.size f cd cc)
 N:=N
 s_0:=s
 H_0:=H
 env:=Zm3 qual scope s.heap.objs.size f cd cc
 outer:=outer
 stack:=Zm3 qual scope s.heap.objs.size f cd cc :: outer
 ex:=[]
 calm:=true
 fn:=fun x=>!(x == ("__class__" : Str))
 pn:=[]
 xe:=fun e s'=>wpAny (model P w) (A.deeper (Zm3 qual scope s.heap.objs.size f cd cc)) (leaving (Zm3 qual scope s.heap.objs.size f cd cc) e) (fun _ s''=>CX outer H s E e s'') (fun e' s''=>CX outer H s E e' s'') s'
theorem ZcO{cc c:YD}{y:Str}(h:([("__class__",cc)]:List (Str×YD)).lookup y=some c):y = "__class__" ∧ c=cc:=by
 simp only[List.lookup_cons,List.lookup_nil]at h
 split at h
 ·rename_i e
  cases h
  exact⟨eq_of_beq e,rfl⟩
 ·cases h
theorem Znv{ps:List Str}{us:List YG}{i:Nat}{y:Str}{u:YG}(nd:ps.Nodup)(hp:ps[i]? = some y)(hu:us[i]? = some u):(ps.zip us).reverse.lookup y=some u:=by
 induction ps generalizing us i with
 | nil=>simp at hp
 | cons p r ih =>
   cases us with
   | nil=>simp at hu
   | cons v vs =>
     obtain⟨n1,n2⟩:=List.nodup_cons.mp nd
     simp only[List.zip_cons_cons,List.reverse_cons]
     rw[List.lookup_append]
     cases i with
     | zero =>
       simp at hp hu
       subst hp hu
       have e:(r.zip vs).reverse.lookup p=none:=by
        rw[List.lookup_eq_none_iff]
        intro q hq
        have m:q.1∈r:=(List.of_mem_zip (List.mem_reverse.mp hq:(q.1,q.2)∈r.zip vs)).1
        simp only[bne_iff_ne,ne_eq]
        rintro rfl
        exact n1 m
       rw[e]
       simp
     | succ i =>
       rw[ih n2 (by simpa using hp) (by simpa using hu)]
       simp
theorem Zko{CX:CXT}{P:YE}{w:YF}{K:YA}{mg:Str→Option YG}{base:Heap}{N ps:List Str}{qual:Str}{scope:Scope}{f cc:YD}{cd:YG}{A:Around}{outer:List Env}{s:YH}{H:Hp}{E:XK}{us:List YG}{vs:List V}{h1:Heap}{tk:Nat}{ocl:Obj}{vc:Option YG}
  (S:Zi9 N ps scope) (hd:A.handled=none) (e0:Env0 P w K mg base A outer s H) (hl:vs.length=ps.length) (r:Vals vs us) (hcc:K.lookup cc=some ocl) (hcv:ocl.data = .cell vc)
  (hns:h1.Ns s.heap.objs.size (fun x=>(ps.zip us).reverse.lookup x)) (hk:∀ b o,s.heap.get? b=some o→h1.get? b=some o) :
  Inv (cxS CX P w K mg base N qual scope f cd cc A outer s H E) [] (start N vs) H { s with heap:=h1,toks:=tk }:=by
 have hpl:ps.length ≤ N.length:=by have:=congrArg List.length S.pre; rw[Yu]at this; omega
 have noA:∀ b:YD,b∉(cxS CX P w K mg base N qual scope f cd cc A outer s H E).ex:=fun b z=>absurd (show b∈([]:List YD)from z) (by simp)
 have bcc:base.get? cc=some ocl:=e0.mod.kin _ _ hcc
 refine⟨⟨e0.mod,S.kind,rfl,rfl,YO _,fun y z c h1 h2=>?_,fun y hy=>?_,fun y c hf h=>?_,fun _=>hd,Around.frames_deeper e0.frames,.inr ⟨rfl,rfl⟩,fun b z=>absurd z (noA b),e0.bs,e0.bsz,fun b _ _=>noA b,fun b z=>absurd z (noA b),e0.funs,e0.frf⟩,
  rfl,e0.bare,Un.kept hk,⟨_,hns,fun i y v h1 h2 h3=>?_⟩,fun y c h=>?_,e0.hok.fresh (YO _),fun y c h=>?_,fun p hp=>absurd (show p∈([]:List (YD×Obj))from hp) (by simp),e0.hok.kept hk,?_⟩
 ·exact(ZcO h1).1.trans (ZcO h2).1.symm
 ·have hy:scope.names.lookup y=some .cell∨scope.names.lookup y=some .free:=hy
  rcases hy with hy | hy
  ·exact absurd rfl (S.nocell _ (PySem.mem_of_lookup hy))
  ·have e:=S.free _ (PySem.mem_of_lookup hy) rfl
   exact⟨cc,by show([("__class__",cc)]:List (Str×YD)).lookup y=_; rw[show y = "__class__" from e]; simp⟩
 ·have e:=(ZcO h).1
  subst e
  have hf2:(!(("__class__" : Str) == ("__class__" : Str)))=true:=hf
  simp at hf2
 ·have hi:i < vs.length:=by
   unfold L2.start at h2
   by_cases hi:i < vs.length
   ·exact hi
   ·rw[List.getElem?_append_right (by simpa using hi)]at h2
    rw[List.getElem?_replicate]at h2
    split at h2 <;> cases h2
  have ha:vs[i]? = some v:=by
   unfold L2.start at h2
   rw[List.getElem?_append_left (by simpa using hi),Ym]at h2
   cases e:vs[i]? with
   | none=>rw[e]at h2; cases h2
   | some a=>rw[e]at h2; cases h2; rfl
  obtain⟨u,hu,rv⟩:=r.get ha
  have hp:ps[i]? = some y:=by
   rw[← S.pre,List.getElem?_take_of_lt (by omega)]; exact h1
  have ndP:ps.Nodup:=by rw[← S.pre]; exact S.nd.sublist (List.take_sublist _ _)
  exact⟨u,rv,.inl ⟨S.par y (Yj hp),Znv ndP hp hu⟩⟩
 ·obtain⟨_,rfl⟩:=ZcO h
  exact⟨vc,ocl,hk _ _ (e0.bs _ _ bcc).1,hcv⟩
 ·obtain⟨_,rfl⟩:=ZcO h
  exact(e0.bs _ _ bcc).2
 ·unfold L2.start
  show _=N.length
  rw[Yc,Yb,List.length_replicate]
  omega
abbrev fnS(name qual:Str)(params:Arguments)(body:List YI)(scope:Scope)(dV kV doc pm:YG)(an:Option YD)(cdv ct:YG)(cc:YD):YC:=PySem.W.fnX name qual params body scope [("__class__",cc)] dV kV doc pm an cdv ct
theorem Zpt{CX:CXT}{P:YE}{w:YF}{K:YA}{mg:Str→Option YG}{base:Heap}{k:Nat}{f cc:YD}{name qual:Str}{params:Arguments}{body:List YI}{scope:Scope}{dV kV doc pm cdv ct oc:YG}{an od:Option YD}
  {osl:Array (Option YG)} {N ps:List Str} {sp:Sp} {ocl:Obj} {vc:Option YG} (lk:K.lookup f=some ⟨oc,od,.func (fnS name qual params body scope dV kV doc pm an cdv ct cc),osl⟩) (hcd:PySem.W.codeIn K cdv qual=true) (S:Zi9 N ps scope)
  (hcc:K.lookup cc=some ocl) (hcv:ocl.data = .cell vc)
  (len:∀ vs H Q E,sp vs H Q E→vs.length=ps.length)
  (hbody:∀ (A:Around) (outer:List Env) (s:YH) (H:Hp) (vs:List V) (Q:VK) (E:XK) (s1:YH),Room k (A.deeper (Zm3 qual scope s.heap.objs.size f cdv cc))→sp vs H Q E →
   Inv (cxS CX P w K mg base N qual scope f cdv cc A outer s H E) [] (L2.start N vs) H s1 →
   PySem.wpAt (model P w) (cxS CX P w K mg base N qual scope f cdv cc A outer s H E).A (.func body (Zm3 qual scope s.heap.objs.size f cdv cc)) (execs body (Zm3 qual scope s.heap.objs.size f cdv cc))
    (SP (cxS CX P w K mg base N qual scope f cdv cc A outer s H E) [] { nx:=fun _ H'=>Q .non H',rt:=Q }) (cxS CX P w K mg base N qual scope f cdv cc A outer s H E).xe s1) :
  Xl P w K mg base CX (k + 1) f (fnS name qual params body scope dV kV doc pm an cdv ct cc) ps sp:=by
 refine⟨len,fun A outer s H args us vs Q E hr e0 hb r hsp=>?_⟩
 have hl:=len _ _ _ _ hsp
 have KX:K.In s.heap:=e0.mod.kin.keeps fun b o e=>(e0.bs b o e).1
 have lim:s.heap.NoLimit:=e0.mod.nolimit.keeps fun b o e=>(e0.bs b o e).1
 refine PySem.ks_codeAny_call_defAt hr.depth (KX _ _ lk) rfl lim (PySem.W.codeRec_of KX hcd) rfl hb S.nocell (fun y hy=>S.par y.1 (List.of_mem_zip (show(y.1,y.2)∈ps.zip us from hy)).1) (fun h1 hns hk=>?_) S.co S.gen S.kind
 have I:=Zko (CX:=CX) (qual:=qual) (f:=f) (cd:=cdv) (E:=E) (tk:=s.toks + (ps.zip us).length) S hr.hd e0 hl r hcc hcv hns hk
 refine PySem.ks_wpAt_mono (hbody A outer s H vs Q E _ (hr.deeper _) hsp I) (fun fl s' hs=>?_) fun e s' hs=>hs
 have fin:∀ {σ':L2.St} {H':Hp} {v:V} {u:YG},Inv (cxS CX P w K mg base N qual scope f cdv cc A outer s H E) [] σ' H' s'→RelV v u→Q v H'→CE outer P w H s Q u s' :=
  fun {σ' H' v u} J rv q=>⟨v,H',J.os,J.bare,J.base,J.hok,rv,q⟩
 cases fl with
 | ret u =>
   obtain⟨v,σ',H',J,rv,q⟩:=hs
   exact fin J rv q
 | next =>
   obtain⟨σ',H',J,q⟩:=hs
   exact fin (v:=V.non) (u:=Value.none) J rfl q
 | brk =>
   obtain⟨_,_,_,q⟩:=hs
   exact False.elim q
 | cont =>
   obtain⟨_,_,_,q⟩:=hs
   exact False.elim q
section
open PySem.W
variable {prog:YE} {w:YF} {A:Around} {E:YG→YH→Prop} {h:Heap} {g:Array GenState} {d:Drawn} {t:Nat} {os:OsState} {K:Frag} {C:YD} {B newId i:String} {bmB:List YG}
theorem Znw{u e t0:YD}{rest:List YG}{Q:YG→YH→Prop}(FB:ExcBaseFacts B newId i bmB)(X:K.In h)(q:excInitIn K C bmB newId=true)(he:h.get? e=some (excObj C t0 none .none))(hu:h.get? u=some (kxs_mw i e))(hz:rest.length ≤ YK)
  (hq:∀ h' t1,(∀ b o,b≠e→h.get? b=some o→h'.get? b=some o)→h'.get? e=some (excObj C t1 none .none)→Q .none ⟨h',g,d,t,os⟩) :
  wpAny (model prog w) A (call (.ref u) rest) Q E ⟨h,g,d,t,os⟩:=by
 obtain⟨nm,N',qn,bs,bm,hdct,sn,sub,ab,col,dd,k0,k1,k2,k3,k5,hC,hT⟩:=excInit_of X q
 refine wpAny_call (codeAny_of_tree ?_)
 show wpAny _ A.in1 (callAny (.ref u) ⟨rest,[]⟩) _ _ _
 simp only[callAny]
 refine YB (wpAny_load hu ?_)
 simp only[kxs_mw,show(Value.type "method-wrapper" == Value.type "method" || Value.type "method-wrapper" == Value.type "builtin_function_or_method" || Value.type "method-wrapper" == Value.type "method-wrapper")=true by decide,if_true]
 refine KFB.if_so (by decide) ?_
 refine YB (check_bound_init FB.toExcCallFacts hC he rfl ?_)
 refine YB (YJ (YJ ?_))
 refine⟨plainId_quiet FB.init.plain _,codeAny_builtin FB.initEntry ?_⟩
 exact exc_init_tree (cls:=.ref C) (t0:=t0) (dv:=none) (c2:=.none) (c3:=.none) (b4:=.bool false) he hz fun h' k e' _=>hq h' _ k e'
end
structure SuC(K:YA)(C D:YD)(B newId i:String)(bmB:List YG):Prop where
 fb:ExcBaseFacts B newId i bmB
 kx:PySem.W.KxsFacts B i
 cls:PySem.W.excInitIn K C bmB newId=true
 sub:PySem.W.mroIn K C (.ref D)=some true
 sup:PySem.W.ks_superIn K C D "__init__" = some (some (.builtin i))
 isB:PySem.W.subIn K (.ref C) (.type B)=some true
 no:PySem.W.nsIn K PySem.cStatics "thirdparty.any" = some none
structure SuF(X:Cx)(me:Str)(D:YD):Prop where
 ks:X.env.kindOf "super" = some .globalImplicit
 kc:X.env.kindOf "__class__" = some .free
 loc:X.env.kindOf me=some .local
 N0:X.N[0]? = some me
 mg:X.mg "super" = none
 top:(X.prog.main.scope.names.lookup ("super" : Str)).isSome=false
 fn:∃ (f:YD) (oc:YG) (od:Option YD) (fd:YC) (osl:Array (Option YG)) (ar:Arg),X.env.func=some f∧X.K.lookup f=some ⟨oc,od,.func fd,osl⟩∧(fd.params.posonlyargs++fd.params.args).head? = some ar∧ar.arg=me
 code:∃ (cda:YD) (ccl:YG) (cdd:Option YD) (vs:Array YG) (ccs:Array (Option YG)) (file:Str) (tf:Tok),X.env.code = .ref cda∧X.K.lookup cda=some ⟨ccl,cdd,.fields vs,ccs⟩∧vs[2]? = some (.str file tf)∧((X.prog.main.file:Str) == file)=true
 cell:∃ (cc:YD) (cl:YG) (cld:Option YD) (csl:Array (Option YG)),X.env.cells.lookup ("__class__" : Str)=some cc∧X.K.lookup cc=some ⟨cl,cld,.cell (some (.ref D)),csl⟩
 clsD:∃ cdD,PySem.W.clsIn X.K D=some cdD
theorem ZkZ{X:Cx}{pins:List (YD×Obj)}{σ:L2.St}{H:Hp}{s:YH}{a C D:YD}{B newId i:String}{bmB:List YG}{body:List YI}{me txt:Str}{j:Nat}{p0 p1 apos cp pos epos:Pos}{pl:Sem Bool}{Q:Flow→YH→Prop}
  (T:SuC X.K C D B newId i bmB) (G:SuF X me D) (I:Inv X pins σ H s) (e:H a=some (exo a C none)) (hv : σ[0]? = some (some (.ref a))) (h:∀ s',Inv X pins σ H s'→Q .next s')
  (hsw:swapsWith (.Call (.Attribute (.Call (.Name "super" p0) [] [] p1) "__init__" apos) [.Constant (.str txt) j cp] [] pos) none epos.line X.env=pure false)
  (he:eval (.Call (.Attribute (.Call (.Name "super" p0) [] [] p1) "__init__" apos) [.Constant (.str txt) j cp] [] pos) X.env=(do
   let ov ← attributeBase (.Call (.Name "super" p0) [] [] p1) "__init__" X.env (eval (.Call (.Name "super" p0) [] [] p1) X.env)
   standAt apos.atName
   let (f,first) ← holding [ov] (getMethod ov "__init__" pl)
   callWith pos f first (backTo pos (starEach [.Constant (.str txt) j cp] X.env)) []):=by rfl) :
  PySem.wpAt (model X.prog X.w) X.A (.func body X.env) (exec (.Expr (.Call (.Attribute (.Call (.Name "super" p0) [] [] p1) "__init__" apos) [.Constant (.str txt) j cp] [] pos) epos) X.env) Q X.xe s:=by
 obtain⟨f,oc,od,fd,osl,ar,hfu,lk,hp,har⟩:=G.fn
 obtain⟨cda,ccl,cdd,vs,ccs,file,tf,hco,hcode,hvs,hfile⟩:=G.code
 obtain⟨cc,cl,cld,csl,hcell,hcc⟩:=G.cell
 obtain⟨cdD,hD⟩:=G.clsD
 have KX:=I.kIn
 obtain⟨oD,hD1,hD2⟩:∃ oD,s.heap.get? D=some oD∧oD.data = .cls cdD:=by
  unfold PySem.W.clsIn at hD
  split at hD
  ·rename_i c d cd' sl ho
   cases hD
   exact⟨_,KX _ _ ho,rfl⟩
  ·cases hD
 obtain⟨mL,hnL,hL⟩:=I.loc
 obtain⟨us,rus,lus⟩:=hL 0 me _ G.N0 hv (.inl G.loc)
 obtain rfl:us=Value.ref a:=rus
 have hml:mL me=some (.ref a):=by
  rcases lus with⟨_,q⟩ | ⟨q,_⟩
  ·exact q
  ·rw[G.loc]at q; rcases q with q | q <;> cases q
 obtain⟨t1,ho⟩:=exo_at I.hok e
 obtain⟨mb,b1,b2⟩:=I.mod.blt
 refine PySem.ks_wpAt_Expr_any (hi:=I.quiet) (hs:=hsw) (PySem.ks_wpAt_MethodCall (PySem.ks_wpAt_super_base G.ks G.kc (by decide) hfu (KX _ _ lk) rfl hp hco (KX _ _ hcode) rfl hvs hfile G.top ?_) he)
 refine PySem.W.ks_loadName_global I.ok.kind G.ks (Calls.loadGlobal_builtin (by rw[I.ok.glob]; exact I.mod.glob.keeps I.bk) G.mg (by rw[I.ok.blt]; exact b1.keeps I.bk) ((b2 "super" (by decide)).trans (show bootBuiltins "super" = some (.type "super")by decide +kernel)) ⟨rfl,?_⟩)
 refine wpAny_loadName_free I.ok.kind G.kc hcell ⟨_,KX _ _ hcc,rfl⟩ ?_
 rw[har]
 refine wpAny_loadName_local I.ok.kind G.loc hnL hml ?_
 refine PySem.ks_wpAny_isType_cls hD1 hD2 ⟨rfl,?_⟩
 obtain⟨hh,g,d,t,os⟩:=s
 refine PySem.ks_wpAny_call_super hD1 hD2 ho rfl (fun c z=>by cases z) (PySem.W.looks_mroIn KX T.sub) (fun h1 e1 kk1=>?_)
 have I1:Inv X pins σ H ⟨h1,g,d,t,os⟩:=I.kept (t':=t) kk1
 have hsup:=T.sup
 unfold PySem.W.ks_superIn at hsup
 cases hc:PySem.W.clsIn X.K C with
 | none=>rw[hc]at hsup; cases hsup
 | some cd =>
   rw[hc,Option.bind_some]at hsup
   have IA:PySem.W.InstAt h1 a { cls:=.ref C,dict:=none,data:=.fields #[.ref t1,.none,.none,.none,.bool false,.none] } C none:=⟨kk1 _ _ ho,rfl,rfl,trivial⟩
   have KX1:=I1.kIn
   refine PySem.W.kxs_getMethod T.kx e1 (PySem.W.looks_opaque KX1 T.no) (l₀:=cd.mro) ?_ rfl KX1 hsup (IA.type.andThen (PySem.W.looks_subIn KX1 T.isB)) (PySem.W.ks_ne KX1 IA hc) (by decide) ?_
   ·exact fun A Q E s k q=>YB ((PySem.W.looks_clsIn KX1 hc) A _ E s k (YJ q))
   ·have kk2:∀ b o,h1.get? b=some o→(h1.push (PySem.W.kxs_mw i a)).get? b=some o:=fun b o z=>YL _ z
    have hu:(h1.push (PySem.W.kxs_mw i a)).get? h1.objs.size=some (PySem.W.kxs_mw i a):=Heap.get?_push_at rfl rfl
    have I2:Inv X pins σ H ⟨h1.push (PySem.W.kxs_mw i a),g,d,t + 2,os⟩:=I1.kept (t':=t + 2) kk2
    refine PySem.W.kxs_callWith (i:=i) (x:=a) rfl (PySem.Calls.evalArgs_plain (Calls.spliced_cons (Calls.Constant_str (k:=j) (pos:=cp) (Calls.spliced_nil ⟨hu,?_⟩))))
    refine Znw T.fb I2.kIn T.cls (kk2 _ _ (kk1 _ _ ho)) hu (by show 1 ≤ YK; decide) fun h3 t3 k3 e3=>?_
    have J:=I2.write (t':=t + 2) (x:=a) (e:=a) (o:=exo a C none) (by rw[e]; exact True.intro) (.inl rfl) k3 ⟨_,e3⟩ (exo_ok e3)
    have eu:upd H a (exo a C none)=H:=by
     funext b
     by_cases hb:b=a
     ·rw[hb,Y8,e]
     ·rw[upd_ne hb]
    rw[eu]at J
    exact h _ J
end M
namespace M
open PySem PySem.Spec PyProof.Rows L2
structure Zkp(K:YA)(C:YD):Prop where
 sa:PySem.W.findIn K (.ref C) "__setattr__" = some (some (.builtin "object.__setattr__"))
 new:∀ {prog:YE} {w:YF} {A:Around} {R:Result→YH→Prop} {hp:Heap} {g:Array GenState} {d:Drawn} {t:Nat} {os:OsState} {name:Str} {tk:Tok} {v:YG} {x:YD} {fv:Array YG},
  K.In hp→hp.get? x=some { cls:=.ref C,data:=.fields fv }→PySem.W.findIn K (.ref C) name=some none →
  (∀ h' tk' dx,(∀ b o,b≠x→hp.get? b=some o→h'.get? b=some o)→hp.objs.size ≤ dx→dx≠x→h'.get? x=some { cls:=.ref C,dict:=some dx,data:=.fields fv } →
   h'.Ns1 dx (fun y=>if y=name then some v else none)→R (.ok (.ret .none)) ⟨h',g,d,tk',os⟩) →
  codeAny (model prog w) A (.call (.builtin "object.__setattr__") ⟨[.ref x,.str name tk,v],[]⟩) R ⟨hp,g,d,t,os⟩
 old:∀ {prog:YE} {w:YF} {A:Around} {R:Result→YH→Prop} {hp:Heap} {g:Array GenState} {d:Drawn} {t:Nat} {os:OsState} {name:Str} {tk:Tok} {v:YG} {x dx:YD} {fv:Array YG} {m0:Str→Option YG} {nl:List Str},
  K.In hp→hp.get? x=some { cls:=.ref C,dict:=some dx,data:=.fields fv }→hp.Ns1 dx m0→Within m0 nl→nl.length ≤ 1000→PySem.W.findIn K (.ref C) name=some none →
  (∀ h' tk',(∀ b o,b≠dx→hp.get? b=some o→h'.get? b=some o)→h'.Ns1 dx (fun y=>if y=name then some v else m0 y)→R (.ok (.ret .none)) ⟨h',g,d,tk',os⟩) →
  codeAny (model prog w) A (.call (.builtin "object.__setattr__") ⟨[.ref x,.str name tk,v],[]⟩) R ⟨hp,g,d,t,os⟩
theorem Zkp.ve{K:YA}{C:YD}(T:OexC K C):Zkp K C:=by
 obtain⟨nm,q,N,bs,bm,sn,sub,ab,col,dd,k0,k1,k2,k3,k5,hC,hbm⟩:=T.cls
 have hcl:PySem.W.clsIn K C=some { name:=nm,bases:=bs,mro:=.ref C :: bm,ns:=N,qualname:=q,hasDict:=true,slotNames:=sn,subclasses:=sub,abstract:=ab,collection:=col,hasDel:=false }:=by unfold PySem.W.clsIn; rw[hC] <;> rfl
 have hm:PySem.HandSPX.refsVE (.ref C :: bm)=true:=hbm
 exact⟨T.sa,fun X hx ha hq=>PySem.HandSPX.exc_osa X hx hcl hm rfl ha hq,fun X hx hn hw hz ha hq=>PySem.OEX.osa_old X hx hn hw hz hcl hm rfl ha hq⟩
theorem Zkp.ex{K:YA}{C:YD}{cd:ClassData}(sa:PySem.W.findIn K (.ref C) "__setattr__" = some (some (.builtin "object.__setattr__"))) (hcl:PySem.W.clsIn K C=some cd) (hm:cd.mro = .ref C :: PySem.ESX.exTail) (hh:cd.hasDict=true):Zkp K C :=
 ⟨sa,fun X hx ha hq=>PySem.ESX.osa_new X hx hcl hm hh ha hq,fun X hx hn hw hz ha hq=>PySem.ESX.osa_old X hx hn hw hz hcl hm hh ha hq⟩
section
variable {X:Cx} {pins:List (YD×Obj)} {σ:L2.St} {H:Hp} {s:YH} {a C dx:YD} {f:Str} {y:V} {u:YG} {fs:List (Str×V)} {Q:Unit→YH→Prop} {E:YG→YH→Prop} {A:Around}
theorem Zmb(T:Zkp X.K C)(I:Inv X pins σ H s)(e:H a=some (exo a C none))(hno:PySem.W.findIn X.K (.ref C) f=some none)(ry:RelV y u)
  (h:∀ dx s',H dx=none→dx≠a→Inv X pins σ (upd (upd H dx (exd dx [(f,y)])) a (exo a C (some dx))) s'→Q () s'):wpAny (model X.prog X.w) A (setAttr (.ref a) f u) Q E s:=by
 obtain⟨t1,ho⟩:=exo_at I.hok e
 obtain⟨hp,g,d,t,os⟩:=s
 refine PySem.W.set_plain I.kIn (ox:={ cls:=.ref C,dict:=none,data:=.fields #[.ref t1,.none,.none,.none,.bool false,.none] }) (od:=none) ⟨ho,rfl,rfl,trivial⟩ T.sa ?_
 refine T.new I.kIn ho hno fun h2 tk2 dx k dn dne hx hn=>?_
 have nH:H dx=none:=I.hok.fresh dn
 have ne1:∀ {b:YD} {o:Obj},hp.get? b=some o→b≠dx:=fun {b o} z=>YQ (Nat.lt_of_lt_of_le (Heap.lt_size z) dn)
 have ne2:∀ {b:YD},H b=none→b≠a:=fun {b} n z=>by rw[z,e]at n; cases n
 have U:Un X.fs [] H (upd (upd H dx (exd dx [(f,y)])) a (exo a C (some dx))) hp h2:={
  keep:=fun b o z n _ _=>k b o (ne2 n) z
  slot:=fun b o z n _ _=>⟨o.slots,k b o (ne2 n) z⟩
  free:=fun b o z n _=>by rw[upd_ne (ne2 n),upd_ne (ne1 z)]; exact n
  there:=fun b o z _=>by
   by_cases hb:b=a
   ·subst hb; exact⟨_,hx⟩
   ·exact⟨o,k b o hb z⟩
  tups:=fun b xs z=>by rw[upd_ne (at_ne e z exo_tup),upd_ne (ne_of_none z nH)]; exact z
  frzs:=fun b o v z=>by rw[upd_ne (at_ne e z exo_frz),upd_ne (ne_of_none z nH)]; exact z
  tbls:=fun b ps z=>⟨#[],by rw[upd_ne (at_ne e z exo_tbl),upd_ne (ne_of_none z nH),z]; simp⟩ }
 refine h dx _ nH dne (I.un (t':=tk2) U fun b o z=>?_)
 by_cases hb:b=a
 ·subst hb
  rw[Y8]at z
  cases z
  exact exo_ok hx
 rw[upd_ne hb]at z
 by_cases hd:b=dx
 ·subst hd
  rw[Y8]at z
  cases z
  exact exd_ok hn (relO_put (fs:=[]) ry fun _=>True.intro)
 rw[upd_ne hd]at z
 refine(I.hok b o z).stay (fun c v hc w=>k c v ?_ w) (fun c hc=>?_) (fun c xs hc=>?_)
 ·rcases hc with hc | hc
  ·rw[hc]; exact hb
  ·exact at_ne e hc exo_own
 ·rw[upd_ne (at_ne e hc exo_own),upd_ne (ne_of_none hc nH)]; exact hc
 ·rw[upd_ne (at_ne e hc exo_tup),upd_ne (ne_of_none hc nH)]; exact hc
theorem Zmc(T:Zkp X.K C)(I:Inv X pins σ H s)(e:H a=some (exo a C (some dx)))(ed:H dx=some (exd dx fs))(hl:fs.length ≤ 900)(hno:PySem.W.findIn X.K (.ref C) f=some none)(ry:RelV y u)
  (h:∀ s',Inv X pins σ (upd H dx (exd dx ((f,y) :: fs))) s'→Q () s'):wpAny (model X.prog X.w) A (setAttr (.ref a) f u) Q E s:=by
 obtain⟨t1,ho⟩:=exo_at I.hok e
 obtain⟨mA,hns,rel⟩:=exd_at I.hok ed
 have hw:=within_of rel
 obtain⟨hp,g,d,t,os⟩:=s
 obtain⟨oD,_,_,hoD,_,_⟩:=hns.count hw
 refine PySem.W.set_plain I.kIn (ox:={ cls:=.ref C,dict:=some dx,data:=.fields #[.ref t1,.none,.none,.none,.bool false,.none] }) (od:=some oD) ⟨ho,rfl,rfl,hoD⟩ T.sa ?_
 refine T.old I.kIn ho hns hw (by rw[Yb]; omega) hno fun h2 tk2 k hn=>?_
 have hd:∃ o,h2.get? dx=some o:=by
  obtain⟨o,_,_,z,_⟩:=hn
  exact⟨o,z⟩
 exact h _ (I.write (t':=tk2) (x:=dx) (e:=dx) (o:=exd dx ((f,y) :: fs)) (by rw[ed]; exact True.intro) (.inl rfl) k hd (exd_ok hn (relO_put ry rel)))
end
def Zpu(K:YA)(f:Str)(to te:TE):TS:=fun D σ H=>te σ H fun y H1=>to σ H1 fun x H2=>∃ a C:YD,x = .ref a∧Zkp K C∧PySem.W.findIn K (.ref C) f=some none ∧
 ((H2 a=some (exo a C none)∧∀ dx,H2 dx=none→dx≠a→D.nx σ (upd (upd H2 dx (exd dx [(f,y)])) a (exo a C (some dx)))) ∨
  ∃ (dx:YD) (fs:List (Str×V)),H2 a=some (exo a C (some dx))∧H2 dx=some (exd dx fs)∧fs.length ≤ 900∧D.nx σ (upd H2 dx (exd dx ((f,y) :: fs))))
theorem Znx{X:Cx}{o e:Expr}{to te:TE}{f:Str}{p' pos:Pos}(ho:PE X o to)(he:PE X e te)(hs:swapsWith e (some (.Attribute o f p')) pos.line X.env=pure false:=by rfl):PS X (.Assign [.Attribute o f p'] e pos) (Zpu X.K f to te):=by
 refine⟨fun pins s σ H D I h=>?_⟩
 refine plainObj_wpAny_Assign_Attribute (thn (he.run pins s σ H _ I h) fun v s1 ⟨y,H1,I1,r1,q1⟩=>thn (ho.run pins s1 σ H1 _ I1 q1) fun u s2 ⟨x,H2,I2,r2,a,C,ex,T,hno,q⟩=>?_) hs
 subst ex
 obtain rfl:u=Value.ref a:=r2
 rcases q with⟨ea,q⟩ | ⟨dx,fs,ea,ed,hl,q⟩
 ·exact Zmb T I2 ea hno r1 fun dx s' n ne J=>⟨σ,_,J,q dx n ne⟩
 ·exact Zmc T I2 ea ed hl hno r1 fun s' J=>⟨σ,_,J,q⟩
theorem Zny{X:Cx}{pins:List (YD×Obj)}{σ:L2.St}{H:Hp}{s:YH}{a C D:YD}{B newId i:String}{bmB:List YG}{body rest:List YI}{me txt:Str}{j:Nat}{p0 p1 apos cp pos epos:Pos}{pl:Sem Bool}{t:TS}{Dn:Ends}
  (T:SuC X.K C D B newId i bmB) (G:SuF X me D) (I:Inv X pins σ H s) (e:H a=some (exo a C none)) (hv : σ[0]? = some (some (.ref a))) (hr:PSs X rest t) (h:t Dn σ H)
  (hsw:swapsWith (.Call (.Attribute (.Call (.Name "super" p0) [] [] p1) "__init__" apos) [.Constant (.str txt) j cp] [] pos) none epos.line X.env=pure false)
  (he:eval (.Call (.Attribute (.Call (.Name "super" p0) [] [] p1) "__init__" apos) [.Constant (.str txt) j cp] [] pos) X.env=(do
   let ov ← attributeBase (.Call (.Name "super" p0) [] [] p1) "__init__" X.env (eval (.Call (.Name "super" p0) [] [] p1) X.env)
   standAt apos.atName
   let (f,first) ← holding [ov] (getMethod ov "__init__" pl)
   callWith pos f first (backTo pos (starEach [.Constant (.str txt) j cp] X.env)) [])) :
  PySem.wpAt (model X.prog X.w) X.A (.func body X.env) (execs (.Expr (.Call (.Attribute (.Call (.Name "super" p0) [] [] p1) "__init__" apos) [.Constant (.str txt) j cp] [] pos) epos :: rest) X.env) (SP X pins Dn) X.xe s:=by
 refine PySem.ks_wpAt_execs_cons (ZkZ T G I e hv (fun s' I'=>?_) hsw he)
 exact wpAt_of_wpAny (hr.run pins s' σ H Dn I' h)
structure Zpv(K:YA)(C fI:YD)(B newId i:String)(bmB:List YG)(fs:List Str):Prop where
 su:SuC K C C B newId i bmB
 og:Zkp K C
 exC:PySem.W.subIn K (.ref C) (.type "BaseException")=some true
 tyC:PySem.W.typeIn K (.ref C)=some (.type "type")
 kC:PySem.W.keepIn K (.ref C)=true
 iC:PySem.W.findIn K (.ref C) "__init__" = some (some (.ref fI))
 tI:PySem.W.typeIn K (.ref fI)=some (.type "function")
 no:∀ f∈fs,PySem.W.findIn K (.ref C) f=some none
def Zim(C:YD)(fs:List Str):Sp:=fun vs H Q _=>∃ a ws,vs = .ref a :: ws∧ws.length=fs.length∧H a=some (exo a C none)∧∀ d,H d=none→d≠a→Q .non (upd (upd H d (exd d (fs.zip ws).reverse)) a (exo a C (some d)))
def Zox(C:YD)(fs:List Str)(ta:TA):L2.St→Hp→XK→Prop:=fun σ H Q=>ta σ H fun zs H1=>zs.length=fs.length∧zs.length ≤ 1000∧∀ d,H1 d=none→Q (.ref C) (some d) (upd H1 d (.xd (fs.zip zs).reverse))
theorem Znz{X:Cx}{pins:List (YD×Obj)}{σ:L2.St}{H1 H2:Hp}{Q:XK}{hp hp2 h2:Heap}{g1 g2:Array GenState}{d1 d2:Drawn}{t1 t2:Nat}{os1 os2:OsState}{a C d:YD}{fs:List (Str×V)}(T:Raises X (.ref C))(I1:Inv X pins σ H1 ⟨hp,g1,d1,t1,os1⟩)
  (ha:hp.objs.size ≤ a) (k:∀ b o,hp.get? b=some o→hp2.get? b=some o) (un:Un (frs X.stack) [] (upd H1 a (exo a C none)) H2 hp2 h2) (hok:HOk X.prog X.w H2 h2) (ho:os2=os1) (hb:AllBare g2)
  (ea:H2 a=some (exo a C (some d))) (ed:H2 d=some (exd d fs)) (hd1:H1 d=none) (q:Q (.ref C) (some d) (upd (del H2 a) d (.xd fs))):L2N.MkP X pins σ Q (.ref a) ⟨h2,g2,d2,t2,os2⟩:=by
 obtain⟨t0,G,J,kG,ge,hoe,na⟩:=mk_end0 (d2:=d2) (t2:=t2) I1 ha k un hok ho hb ea ed hd1
 exact⟨a,_,_,⟨G,g2,d2,t2,os2⟩,_,.ref C,some d,rfl,J,kG,ge,hoe,⟨rfl,rfl,fun vs e=>by cases e; rfl⟩,rfl,rfl,na,rfl,hb,T,q⟩
theorem Zpw{X:Cx}{CX:CXT}{x:Str}{C fI:YD}{k:Nat}{fd:YC}{B newId i:String}{bmB:List YG}{fs:List Str}{kws:List Keyword}{tk:TA}{p pos:Pos}(T:Zpv X.K C fI B newId i bmB fs)(F1:Xl X.prog X.w X.K X.mg X.base CX k fI fd ("self" :: fs) (Zim C fs)) (hr:Room (k + 1) X.A)
  (hb:∀ (s:YH) (u:YG) (ws:List YG),ws.length=fs.length→BindsTo s fd ⟨[u],fs.zip ws⟩ ((("self" : Str) :: fs).zip (u :: ws))) (hx:Passes CX X (fun _ _ _=>False)) (hg:Gl X x) (hm:X.mg x=some (.ref C)) (hkw:PK X kws tk)
  (hall:(backToKw pos (keywordEach kws X.env)).all (·.1.isSome)=true:=by rfl) (hks:(backToKw pos (keywordEach kws X.env)).filterMap (·.1)=fs:=by rfl) (hdb:(x == ("__debug__" : Str))=false:=by decide)
  (hpl:((backTo pos (starEach [] X.env)).any (·.1) || (backToKw pos (keywordEach kws X.env)).any (·.1.isNone))=false:=by rfl) :
  L2N.PMk X (.Call (.Name x p) [] kws pos) (Zox C fs tk):=by
 intro pins s σ H Q I h
 refine wpAny_Call_Name_kw (ld_glob I hg hm ?_ hdb)
 refine PySem.W.callWith_KW0 (h₀:=X.base) I.ok.mod.kin T.kC hall ?_ hpl
 refine thn (hkw.run pos pins s σ H _ I h) fun ws s1 ⟨zs,H1,I1,rz,lz,lz2,q1⟩=>⟨I1.kIn,?_⟩
 rw[hks]
 show wpAny _ _ (call (.ref C) [] (fs.zip ws)) _ _ _
 obtain⟨nm,N',qn,bs,bm,hdct,sn,sub,ab,col,dd,k0,k1,k2,k3,k5,hC,hT⟩:=PySem.W.excInit_of I1.kIn T.su.cls
 obtain⟨hp,g,dr,tkk,os⟩:=s1
 have hsz:hp.objs.size ≤ hp.objs.size + 1:=Nat.le_succ _
 have hn:H1 (hp.objs.size + 1)=none:=I1.hok.fresh hsz
 have kk:∀ b o,hp.get? b=some o→((hp.push (PySem.W.kdv_tup [])).push (PySem.HandSPX.excO C hp.objs.size)).get? b=some o:=fun b o e=>YL _ (YL _ e)
 have hget:((hp.push (PySem.W.kdv_tup [])).push (PySem.HandSPX.excO C hp.objs.size)).get? (hp.objs.size + 1)=some (PySem.HandSPX.excO C hp.objs.size):=by heap_get
 have I2:Inv X pins σ (upd H1 (hp.objs.size + 1) (exo (hp.objs.size + 1) C none)) ⟨(hp.push (PySem.W.kdv_tup [])).push (PySem.HandSPX.excO C hp.objs.size),g,dr,tkk,os⟩ :=
  I1.laid (t':=tkk) (a:=hp.objs.size + 1) (o:=exo (hp.objs.size + 1) C none) (h':=(hp.push (PySem.W.kdv_tup [])).push (PySem.HandSPX.excO C hp.objs.size)) kk hsz (exo_ok hget)
 have lw:ws.length=fs.length:=by rw[← rz.length]; exact lz
 have r2:Vals (V.ref (hp.objs.size + 1) :: zs) (Value.ref (hp.objs.size + 1) :: ws):=.cons rfl rz
 have hsp:Zim C fs (V.ref (hp.objs.size + 1) :: zs) (upd H1 (hp.objs.size + 1) (exo (hp.objs.size + 1) C none))
   (fun v H2=>v = .non∧∃ (d:YD) (gs:List (Str×V)),H2 (hp.objs.size + 1)=some (exo (hp.objs.size + 1) C (some d))∧H2 d=some (exd d gs)∧H1 d=none∧Q (.ref C) (some d) (upd (del H2 (hp.objs.size + 1)) d (.xd gs))) (fun _ _ _=>False):=by
  refine⟨_,zs,rfl,lz,Y8,fun d hd hda=>⟨rfl,d,(fs.zip zs).reverse,Y8,?_,?_,?_⟩⟩
  ·rw[upd_ne hda,Y8]
  ·rw[upd_ne hda]at hd; exact hd
  ·have hd1:H1 d=none:=by rw[upd_ne hda]at hd; exact hd
   have z:=q1 d hd1
   have e:upd (del (upd (upd (upd H1 (hp.objs.size + 1) (exo (hp.objs.size + 1) C none)) d (exd d (fs.zip zs).reverse)) (hp.objs.size + 1) (exo (hp.objs.size + 1) C (some d))) (hp.objs.size + 1)) d (.xd (fs.zip zs).reverse)=upd H1 d (.xd (fs.zip zs).reverse):=by
    funext b
    by_cases h1:b=d
    ·rw[h1,Y8,Y8]
    ·rw[upd_ne h1,upd_ne h1]
     by_cases h2:b=hp.objs.size + 1
     ·rw[h2,del_same,hn]
     ·rw[del_ne h2,upd_ne h2,upd_ne h1,upd_ne h2]
   rw[e]
   exact z
 refine wpAny_call (PySem.MXP.call_kw T.su.fb hT hC (PySem.W.looks_findIn I1.kIn T.iC) (fun self=>PySem.W.bind_fn I1.kIn self T.tI) (by show 0 ≤ _; exact YP _)
  (codeAny_mono (F1.run _ X.stack _ _ ⟨[Value.ref (hp.objs.size + 1)],fs.zip ws⟩ (Value.ref (hp.objs.size + 1) :: ws) _ _ (fun _ _ _=>False) (hr.make C [] (fs.zip ws)) (I2.env0.make C [] (fs.zip ws)) (hb _ _ _ lw) r2 hsp) fun r s' hq'=>?_))
 cases r with
 | error er=>exact hx pins σ _ _ er s' I2 hq'
 | ok fl =>
   cases fl with
   | ret u =>
     obtain⟨v,H2,os2,bare2,un2,hok2,rv,ev,d,gs,ea,ed,hd1,q2⟩:=hq'
     subst ev
     obtain⟨h2,g2,d2,t2,os'⟩:=s'
     exact⟨rv,Znz (raises_own T.exC T.tyC) I1 hsz kk un2 hok2 os2 bare2 ea ed hd1 q2⟩
   | next=>exact False.elim hq'
   | brk=>exact False.elim hq'
   | cont=>exact False.elim hq'
structure Zmd(P:YE)(K:YA)(qual:Str)(st:YI)(f C:YD)(fd:YC):Prop where
 ex:∃ (oc:YG) (od:Option YD) (dV kV doc pm:YG) (an:Option YD) (cdv ct:YG) (osl:Array (Option YG)) (cc:YD) (cl:YG) (cld:Option YD) (csl:Array (Option YG)) (cda:YD) (ccl:YG) (cdd:Option YD) (vs:Array YG) (ccs:Array (Option YG)) (file:Str) (tf:Tok),
  fd=fnS "__init__" qual (Y1 st) (Y0 st) (YU st) dV kV doc pm an cdv ct cc∧K.lookup f=some ⟨oc,od,.func fd,osl⟩∧PySem.W.codeIn K cdv qual=true∧K.lookup cc=some ⟨cl,cld,.cell (some (.ref C)),csl⟩∧cdv = .ref cda∧K.lookup cda=some ⟨ccl,cdd,.fields vs,ccs⟩∧vs[2]? = some (.str file tf)∧((P.main.file:Str) == file)=true
structure Zpx(P:YE)(mg:Str→Option YG)(st:YI):Prop where
 ks:(YU st).names.lookup ("super" : Str)=some .globalImplicit
 kc:(YU st).names.lookup ("__class__" : Str)=some .free
 loc:(YU st).names.lookup ("self" : Str)=some .local
 ar:∃ ar:Arg,((Y1 st).posonlyargs++(Y1 st).args).head? = some ar∧ar.arg=("self" : Str)
 mg:mg "super" = none
 top:(P.main.scope.names.lookup ("super" : Str)).isSome=false
def ZrK(txt:Str)(j:Nat)(p0 p1 apos cp pos epos:Pos):YI:=.Expr (.Call (.Attribute (.Call (.Name "super" p0) [] [] p1) "__init__" apos) [.Constant (.str txt) j cp] [] pos) epos
def Zpy(f:Str)(q1 q2 q3 q4:Pos):YI:=.Assign [.Attribute (.Name "self" q1) f q2] (.Name f q3) q4
def Zs_(txt:Str)(j:Nat)(p0 p1 apos cp pos:Pos):Prop:=∀ env:Env,∃ pl:Sem Bool,eval (.Call (.Attribute (.Call (.Name "super" p0) [] [] p1) "__init__" apos) [.Constant (.str txt) j cp] [] pos) env=(do
   let ov ← attributeBase (.Call (.Name "super" p0) [] [] p1) "__init__" env (eval (.Call (.Name "super" p0) [] [] p1) env)
   standAt apos.atName
   let (f,first) ← holding [ov] (getMethod ov "__init__" pl)
   callWith pos f first (backTo pos (starEach [.Constant (.str txt) j cp] env)) [])
section
variable {CX:CXT} {P:YE} {w:YF} {K:YA} {mg:Str→Option YG} {base:Heap} {k:Nat} {fI C:YD} {fd:YC} {qual:Str} {st:YI} {B newId i:String} {bmB:List YG} {txt:Str} {j:Nat} {p0 p1 apos cp pos epos:Pos}
theorem Zpz{N:List Str}{A:Around}{outer:List Env}{s:YH}{H:Hp}{E:XK}{oc:YG}{od:Option YD}{dV kV doc pm:YG}{an:Option YD}{ct:YG}{osl:Array (Option YG)}{cc cda:YD}{cl:YG}{cld:Option YD}{csl:Array (Option YG)}{ccl:YG}{cdd:Option YD}{vs:Array YG}{ccs:Array (Option YG)}{file:Str}{tf:Tok}
  (t:Zpx P mg st) (T:SuC K C C B newId i bmB) (hN:N[0]? = some ("self" : Str)) (lk:K.lookup fI=some ⟨oc,od,.func (fnS "__init__" qual (Y1 st) (Y0 st) (YU st) dV kV doc pm an (.ref cda) ct cc),osl⟩) (hcc:K.lookup cc=some ⟨cl,cld,.cell (some (.ref C)),csl⟩)
  (hco:K.lookup cda=some ⟨ccl,cdd,.fields vs,ccs⟩) (hvs:vs[2]? = some (.str file tf)) (hfile:((P.main.file:Str) == file)=true):SuF (cxS CX P w K mg base N qual (YU st) fI (.ref cda) cc A outer s H E) "self" C:=by
 obtain⟨ar,h1,h2⟩:=t.ar
 refine⟨t.ks,t.kc,t.loc,hN,t.mg,t.top,⟨fI,oc,od,_,osl,ar,rfl,lk,h1,h2⟩,⟨cda,ccl,cdd,vs,ccs,file,tf,rfl,hco,hvs,hfile⟩,⟨cc,cl,cld,csl,by show([("__class__",cc)]:List (Str×YD)).lookup _=_; simp,hcc⟩,?_⟩
 show ∃ cdD,PySem.W.clsIn K C=some cdD
 have h:=T.cls
 unfold PySem.W.excInitIn at h
 unfold PySem.W.clsIn
 split at h
 ·rename_i dd cd sl ho
  rw[ho]
  exact⟨cd,rfl⟩
 ·cases h
theorem ZnA{f1:Str}{q1 q2 q3 q4:Pos}(S:Zi9 ["self",f1] ["self",f1] (YU st)) (D:Zmd P K qual st fI C fd) (T:Zpv K C fI B newId i bmB [f1]) (t:Zpx P mg st) (hb:Y0 st=[ZrK txt j p0 p1 apos cp pos epos,Zpy f1 q1 q2 q3 q4]) (ev:Zs_ txt j p0 p1 apos cp pos)
  (l1:(YU st).names.lookup f1=some .local) (n1:(f1 == ("__debug__" : Str))=false) (c1:(f1 == ("__classdict__" : Str))=false):Xl P w K mg base CX (k + 1) fI fd ["self",f1] (Zim C [f1]):=by
 obtain⟨oc,od,dV,kV,doc,pm,an,cdv,ct,osl,cc,cl,cld,csl,cda,ccl,cdd,vs,ccs,file,tf,rfl,lk,hcd,hcc,rfl,hco,hvs,hfile⟩:=D.ex
 refine Zpt lk hcd S hcc rfl (fun vs H Q E h=>?_) (fun A outer s H vs Q E s1 hr hsp I=>?_)
 ·obtain⟨a,ws,rfl,hl,_⟩:=h
  rw[Yd,hl]; rfl
 ·obtain⟨a,ws,rfl,hl,ha,q⟩:=hsp
  match ws,hl with
  | [y],_ =>
  have G:=Zpz (CX:=CX) (w:=w) (base:=base) (N:=["self",f1]) (A:=A) (outer:=outer) (s:=s) (H:=H) (E:=E) t T.su rfl lk hcc hco hvs hfile
  obtain⟨pl,he⟩:=ev (cxS CX P w K mg base ["self",f1] qual (YU st) fI (.ref cda) cc A outer s H E).env
  rw[hb]
  refine Zny (pl:=pl) (t:=Zpu K f1 (YS 0) (YS 1)) (Dn:={ nx:=fun _ H'=>Q .non H',rt:=Q }) T.su G I ha rfl (YX (Znx (pv 0 (x := "self") (hN:=rfl) (hv:=.inl t.loc)) (pv 1 (x:=f1) (hN:=rfl) (hv:=.inl l1) (hd:=n1) (hcd:=c1)))) ?_ rfl he
  exact⟨y,rfl,.ref a,rfl,a,C,rfl,T.og,T.no f1 (by simp),.inl ⟨ha,fun dx hd hne=>q dx hd hne⟩⟩
end
section
variable {X:Cx} {pins:List (YD×Obj)} {σ:L2.St} {H:Hp} {s:YH}
theorem Zme{a T:YD}(I:Inv X pins σ H s)(na:H a=none)(nt:H T=none)(a0:X.s_0.heap.get? a=none)(t0:X.s_0.heap.get? T=none)(aL:a≠X.env.locals)(tL:T≠X.env.locals)
  (nc:∀ x c,X.env.cells.lookup x=some c→c≠a∧c≠T) (np:∀ p∈X.pn++pins,p.1≠a∧p.1≠T):Inv X pins σ H { s with heap:=PySem.W.hideAll s.heap [a,T] }:=by
 have k:∀ b,b≠a→b≠T→∀ o,s.heap.get? b=some o→(PySem.W.hideAll s.heap [a,T]).get? b=some o:=fun b h1 h2 o e=>PySem.W.hideAll_get _ e (by simp[h1,h2])
 have n0:∀ b o,X.s_0.heap.get? b=some o→b≠a∧b≠T:=fun b o e=>⟨fun z=>(by rw[z,a0]at e; cases e),fun z=>(by rw[z,t0]at e; cases e)⟩
 have nH:∀ b o,H b=some o→b≠a∧b≠T:=fun b o e=>⟨fun z=>(by rw[z,na]at e; cases e),fun z=>(by rw[z,nt]at e; cases e)⟩
 obtain⟨m,hn,hl⟩:=I.loc
 refine⟨I.ok,I.os,I.bare,⟨fun b o e n h1 h2=>?_,fun b o e n h1 h2=>?_,I.base.free,fun b o e h2=>?_,I.base.tups,I.base.frzs,I.base.tbls⟩,⟨m,hn.at fun o e=>k _ (Ne.symm aL) (Ne.symm tL) o e,fun i x v e1 e2 e3=>?_⟩,fun x c e=>?_,I.free,I.freeC,fun p hp=>?_,fun b o e=>?_,I.len⟩
 ·exact k b (n0 b o e).1 (n0 b o e).2 o (I.base.keep b o e n h1 h2)
 ·obtain⟨sl,e1⟩:=I.base.slot b o e n h1 h2
  exact⟨sl,k b (n0 b o e).1 (n0 b o e).2 _ e1⟩
 ·obtain⟨o',e1⟩:=I.base.there b o e h2
  exact⟨o',k b (n0 b o e).1 (n0 b o e).2 _ e1⟩
 ·obtain⟨u,ru,q⟩:=hl i x v e1 e2 e3
  refine⟨u,ru,?_⟩
  rcases q with q | ⟨q,c,e,o,z1,z2⟩
  ·exact .inl q
  ·exact .inr ⟨q,c,e,o,k c (nc x c e).1 (nc x c e).2 o z1,z2⟩
 ·obtain⟨v,o,z1,z2⟩:=I.cell x c e
  exact⟨v,o,k c (nc x c e).1 (nc x c e).2 o z1,z2⟩
 ·obtain⟨z,r⟩:=I.pin p hp
  exact⟨k _ (np p hp).1 (np p hp).2 _ z,r⟩
 ·refine(I.hok b o e).stay (fun c v hc z=>?_) (fun _ h=>h) fun _ _ h=>h
  rcases hc with rfl | hc
  ·exact k _ (nH _ _ e).1 (nH _ _ e).2 v z
  ·exact k _ (nH _ _ hc).1 (nH _ _ hc).2 v z
end
structure Fly(X:Cx)(a:YD)(oe:Obj)(T:YD)(oT:Obj)(cls:YG)(d:Option YD):Prop where
 z:Zc cls d oe
 f:∃ vs ts,oe.data = .fields vs∧vs[1]? = some (.ref T)∧oT.data = .fields ts∧ts[3]? = some .none
 ne:T≠a
 a0:X.s_0.heap.get? a=none
 t0:X.s_0.heap.get? T=none
abbrev suY(X:Cx)(a:YD)(oe:Obj)(T:YD)(oT:Obj)(pins:List (YD×Obj))(xe:YG→YH→Prop):Cx:={ X with A:=X.A.mark (some (.ref a)),calm:=false,pn:=(a,oe) :: (T,oT) :: (X.pn++pins),xe:=xe }
structure ZqK(X:Cx)(a:YD)(oe:Obj)(T:YD)(oT:Obj)(cls:YG)(d:Option YD)(pins:List (YD×Obj)):Prop where
 z:L2N.Zn cls d oe
 f:∃ vs ts,oe.data = .fields vs∧vs[1]? = some (.ref T)∧oT.data = .fields ts∧3 < ts.size
 ne:T≠a
 a0:X.s_0.heap.get? a=none
 t0:X.s_0.heap.get? T=none
 np:∀ p∈X.pn++pins,p.1≠a∧p.1≠T
 hs:X.stack=X.env :: X.outer
 hf:X.env.frame=some X.env.locals
 ok:X.Ok
section
variable {X:Cx} {a T:YD} {oe oT:Obj} {cls:YG} {d:Option YD} {pins pn':List (YD×Obj)} {σ:L2.St} {H:Hp} {s:YH} {xe:YG→YH→Prop} {W:WX}
theorem ZpA(I:Inv (suY X a oe T oT pins xe) pn' σ H s)(ok:X.Ok):Inv X pins σ H s :=
 ⟨ok,I.os,I.bare,I.base,I.loc,I.cell,I.free,I.freeC,fun p hp=>I.pin p (Yo _ (Yf _ (Yf _ hp))),I.hok,I.len⟩
theorem ZpB{oT':Obj}{ts:Array YG}{fl:YG}(F:ZqK X a oe T oT cls d pins)(J:Inv X pins σ H s)(ha:s.heap.get? a=some oe)(hT:s.heap.get? T=some oT')(hdT:oT'.data = .fields ts)(h3:ts[3]? = some fl)(na:H a=none)(nt:H T=none)(tk:L2N.Takes X W)(w:W cls d σ H)
  {A:Around} {E:YG→YH→Prop} {Q:Unit→YH→Prop} (hQ:∀ s',X.xe (.ref a) s'→Q () s'):wpAny (model X.prog X.w) A (setFlight (.ref a) X.env.frame) Q E s:=by
 obtain⟨vs,ts0,hd,h1,_,_⟩:=F.f
 have dne:∀ {p:YD} {o:Obj} {ys:Array YG},s.heap.get? p=some o→o.data = .fields ys→p≠X.env.locals∧∀ x c,X.env.cells.lookup x=some c→c≠p:=fun {p o ys} e n=>by
  refine⟨fun z=>?_,fun x c hc z=>?_⟩
  ·obtain⟨m,⟨oL,es,ep,e1,e2,_⟩,_⟩:=J.loc
   rw[z,e1]at e
   cases e
   rw[e2]at n
   cases n
  ·obtain⟨v,o',z1,z2⟩:=J.cell x c hc
   rw[z,e]at z1
   cases z1
   rw[n]at z2
   cases z2
 have G:=Zme J na nt F.a0 F.t0 (dne ha hd).1 (dne hT hdT).1 (fun x c hc=>⟨(dne ha hd).2 x c hc,(dne hT hdT).2 x c hc⟩) F.np
 obtain⟨B,eB⟩:∃ B:Heap,B=PySem.W.hideAll (PySem.W.hideAll s.heap [a,T]) (frs X.stack):=⟨_,rfl⟩
 have Bn:∀ b,b∈[a,T]→B.get? b=none:=fun b hb=>by
  cases q:B.get? b with
  | none=>rfl
  | some o =>
    rw[eB]at q
    have z:=PySem.W.of_hideAll _ q
    rw[PySem.W.hideAll_none _ hb]at z
    cases z
 have BS:B.StaysIn s.heap:=fun b o e=>by
  rw[eB]at e
  exact PySem.W.of_hideAll _ (PySem.W.of_hideAll _ e)
 have FF:s.heap.FunFrames B X.stack:=funFrames_none J.stack fun b hb=>by rw[eB]; exact PySem.W.hideAll_none _ hb
 rw[F.hf]
 refine HandSPX.setFlight_anyZ (Z:=L2N.Zn cls d) (fl:=fl) BS FF ⟨oe,vs,T,oT',ts,ha,F.z,hd,h1,Bn T (by simp),F.ne,hT,hdT,h3⟩ fun h4 k1 k2 k3 k4=>hQ _ (tk _ _ ?_)
 refine⟨a,B,{ s with heap:=PySem.W.hideAll s.heap [a,T] },pins,σ,H,cls,d,rfl,G,fun b o e hb=>?_,?_,.inr (.inr ⟨k1,Bn a (by simp),k2,k3⟩),na,rfl,J.bare,w⟩
 ·rw[eB]; exact PySem.W.hideAll_get _ e hb
 ·exact(Heap.UpToSlots.of_keeps fun b o e=>PySem.W.of_hideAll _ e).trans k4
end
structure Wait(X:Cx)(pins:List (YD×Obj))(a:YD)(σ:L2.St)(H:Hp)(cls:YG)(d:Option YD)(s:YH):Prop where
 ex:∃ (B:Heap) (sI:YH),Inv X pins σ H sI∧(∀ b o,sI.heap.get? b=some o→b∉frs X.stack→B.get? b=some o)∧sI.heap.UpToSlots s.heap∧HandSPX.FlyingZ B (X.env :: X.outer) a (L2N.Zn cls d) s.heap∧H a=none∧s.os=sI.os∧AllBare s.gens
structure PH(X:Cx)(hds:List ExceptHandler)(wh:Ends→WX):Prop where
 run:∀ (pins:List (YD×Obj)) (D:Ends) (a:YD) (σ:L2.St) (H:Hp) (cls:YG) (d:Option YD) (s:YH),Wait X pins a σ H cls d s→wh D cls d σ H→wpAny (model X.prog X.w) X.A (handleBy (.ref a) X.env hds) (SP X pins D) X.xe s
structure Zk0(X:Cx):Prop where
 hs:X.stack=X.env :: X.outer
 hf:X.env.frame=some X.env.locals
 hex:X.ex=[]
 hpa:∀ hd:Option YG,PassesOwnAt (model X.prog X.w) (X.A.mark hd) X.A X.env X.xe
section
variable {X:Cx} {pins:List (YD×Obj)} {a:YD} {σ:L2.St} {H:Hp} {cls:YG} {d:Option YD} {s:YH}
theorem Wait.inv(C:Zk0 X)(w:Wait X pins a σ H cls d s):Inv X pins σ H s:=by
 obtain⟨B,sI,I,nb,up,fl,na,os,ag⟩:=w.ex
 exact I.landed nb fl.1 up os ag
theorem Wait.fly(C:Zk0 X)(w:Wait X pins a σ H cls d s):∃ oe T oT vs ts,ZqK X a oe T oT cls d pins∧s.heap.get? a=some oe∧s.heap.get? T=some oT∧oe.data = .fields vs∧oT.data = .fields ts∧ts[3]? = some .none∧H a=none∧H T=none∧a∉X.fs∧T∉X.fs:=by
 obtain⟨B,sI,I,nb,up,fl,na,os,ag⟩:=w.ex
 obtain⟨k1,k2,k3,oe,vs,T,oT,ts,he,hz,hd,h1,hnT,hTe,hT,hdT,h3⟩:=fl
 have nfr:∀ {p:YD} {o:Obj} {ys:Array YG},s.heap.get? p=some o→o.data = .fields ys→p∉frs X.stack:=fun {p o ys} e n hm=>by
  rw[C.hs]at hm
  obtain⟨_,o',e',hnf⟩:=k3.mem hm
  rw[e]at e'; cases e'
  exact hnf _ n
 have fsub:∀ b,b∈X.fs→b∈frs X.stack:=fun b hb=>by
  rw[C.hs]
  obtain⟨e,he,q⟩:=List.mem_filterMap.mp hb
  exact List.mem_filterMap.mpr ⟨e,Yf _ he,q⟩
 have aI:sI.heap.get? a=none:=by
  cases q:sI.heap.get? a with
  | none=>rfl
  | some o=>have z:=nb a o q (nfr he hd); rw[k2]at z; cases z
 have tI:sI.heap.get? T=none:=by
  cases q:sI.heap.get? T with
  | none=>rfl
  | some o=>have z:=nb T o q (nfr hT hdT); rw[hnT]at z; cases z
 have s0:∀ b,sI.heap.get? b=none→X.s_0.heap.get? b=none:=fun b hb=>by
  cases q:X.s_0.heap.get? b with
  | none=>rfl
  | some o =>
    obtain⟨o',z⟩:=I.base.there b o q (by rw[C.hex]; simp)
    rw[hb]at z; cases z
 refine⟨oe,T,oT,vs,ts,⟨hz,⟨vs,ts,hd,h1,hdT,(Array.getElem?_eq_some_iff.mp h3).1⟩,hTe,s0 a aI,s0 T tI,fun p hp=>?_,C.hs,C.hf,I.ok⟩,he,hT,hd,hdT,h3,na,I.hok.gone tI,fun z=>nfr he hd (fsub a z),fun z=>nfr hT hdT (fsub T z)⟩
 have e:=(I.pin p hp).1
 exact⟨fun z=>(by rw[z,aI]at e; cases e),fun z=>(by rw[z,tI]at e; cases e)⟩
theorem Zm4{Wout:WX}(C:Zk0 X)(tk:L2N.Takes X Wout):PH X [] (fun _=>Wout):=by
 refine⟨fun pins D a σ H cls d s w h=>?_⟩
 obtain⟨oe,T,oT,vs,ts,F,ha,hT,hd,hdT,h3,na,nt,_,_⟩:=w.fly C
 refine wpAny_handleBy_nil ?_
 obtain⟨vs',ts',hd',h1,_,_⟩:=F.f
 unfold PySem.passOn
 refine YB (wpAny_field ha hd' h1 ?_)
 rw[if_neg (show ¬ ((Value.ref T == Value.none)=true)from by simp)]
 have fin:wpAny (model X.prog X.w) X.A (setFlight (.ref a) X.env.frame) (fun _ s4=>wpAny (model X.prog X.w) X.A (throw (.ref a):Sem Flow) (SP X pins D) X.xe s4) X.xe s :=
  ZpB F (w.inv C) ha hT hdT h3 na nt tk h fun s' q=>wpAny_throw q
 first
  | exact YB (YJ (YB fin))
  | exact YB fin
theorem Wait.test{x:Str}{c:YG}{np:Pos}{Q E:YG→YH→Prop}(C:Zk0 X)(hc:Names X x c)(w:Wait X pins a σ H cls d s)(q:Q c s):wpAny (model X.prog X.w) (X.A.mark (some (.ref a))) (eval (.Name x np) X.env) Q E s:=by
 obtain⟨oe,T,oT,vs,ts,F,ha,hT,hd,hdT,h3,na,nt,nF,_⟩:=w.fly C
 have J:=w.inv C
 have aL:a≠X.env.locals:=fun z=>by
  obtain⟨m,⟨oL,es,ep,e1,e2,_⟩,_⟩:=J.loc
  rw[z,e1]at ha
  cases ha
  rw[e2]at hd
  cases hd
 have S3:=J.suite ha hd na aL nF
 obtain⟨hg,hdbg,hm | ⟨hm,hv,hnn⟩⟩:=hc
 ·exact ld_glob (X:=X.suite a ((a,oe) :: (X.pn++pins))) S3 hg hm q hdbg
 ·exact ld_blt (X:=X.suite a ((a,oe) :: (X.pn++pins))) S3 hg hm hv q hnn hdbg
theorem Wait.suite{xe:YG→YH→Prop}{oe oT:Obj}{T:YD}{vs ts:Array YG}(J:Inv X pins σ H s)(ha:s.heap.get? a=some oe)(hd:oe.data = .fields vs)(na:H a=none)(nF:a∉X.fs)(hT:s.heap.get? T=some oT)(hdT:oT.data = .fields ts)(nt:H T=none)(tF:T∉X.fs) :
  Inv (suY X a oe T oT pins xe) [] σ H s:=by
 have nL:∀ {p:YD} {o:Obj} {ys:Array YG},s.heap.get? p=some o→o.data = .fields ys→p≠X.env.locals:=fun {p o ys} e n z=>by
  obtain⟨m,⟨oL,es,ep,e1,e2,_⟩,_⟩:=J.loc
  rw[z,e1]at e
  cases e
  rw[e2]at n
  cases n
 have ok:(suY X a oe T oT pins xe).Ok:=⟨J.ok.mod,J.ok.kind,J.ok.glob,J.ok.blt,J.ok.above,J.ok.inj,J.ok.has,J.ok.cab,(fun z=>Bool.noConfusion (show false=true from z)),J.ok.frames,J.ok.stk,J.ok.exf,J.ok.bs,J.ok.bsz,J.ok.noex,J.ok.exfs,J.ok.funs,J.ok.frf⟩
 refine⟨ok,J.os,J.bare,J.base,J.loc,J.cell,J.free,J.freeC,fun p hp=>?_,J.hok,J.len⟩
 have hp':p∈(a,oe) :: (T,oT) :: (X.pn++pins):=by rw[List.append_nil]at hp; exact hp
 rcases Yn.mp hp' with rfl | hp'
 ·exact⟨ha,na,nL ha hd,nF,fun v z=>by rw[hd]at z; cases z⟩
 rcases Yn.mp hp' with rfl | hp'
 ·exact⟨hT,nt,nL hT hdT,tF,fun v z=>by rw[hdT]at z; cases z⟩
 ·exact J.pin p hp'
end
def Zm5(K:YA)(c:YG)(ts:YD→YG→Option YD→TS)(wh:Ends→WX)(D:Ends):WX:=fun cls d σ H =>
 ∃ b,PySem.W.exmOne K cls c=some b∧(b=true→∀ a,H a=none→ts a cls d D σ H)∧(b=false→wh D cls d σ H)
def ZrL(K:YA)(c:YG)(i:Nat)(ts:YD→YG→Option YD→TS)(wh:Ends→WX)(D:Ends):WX:=fun cls d σ H =>
 ∃ b,PySem.W.exmOne K cls c=some b∧(b=true→∀ a,H a=none→ts a cls d { nx:=fun σ' H'=>D.nx (σ'.set i none) H',rt:=D.rt,bk:=fun σ' H'=>D.bk (σ'.set i none) H',ct:=fun σ' H'=>D.ct (σ'.set i none) H' } (σ.set i (some (.ref a))) H) ∧
   (b=false→wh D cls d σ H)
abbrev ZqL(X:Cx)(a:YD)(n:Str)(pos:Pos):YG→YH→Prop:=AsSuiteRaised (model X.prog X.w) (X.A.mark (some (.ref a))) X.env n pos (notedBy (model X.prog X.w) (X.A.mark (some (.ref a))) X.env (cameBackBy (model X.prog X.w) X.A X.env X.xe))
section
variable {X:Cx} {x n:Str} {c:YG} {i:Nat} {suite:List YI} {b₀:YI} {np pos':Pos} {hds:List ExceptHandler} {ts:YD→YG→Option YD→TS} {wh:Ends→WX}
theorem ZpC(C:Zk0 X)(hN:X.N.Nodup)(hi:X.N[i]? = some n)(hln:X.env.kindOf n=some .local)(hc:Names X x c)
  (hsu:∀ (a T:YD) (oe oT:Obj) (cls:YG) (d:Option YD) (pins:List (YD×Obj)),ZqK X a oe T oT cls d pins→PSs (suY X a oe T oT pins (ZqL X a n pos')) (b₀ :: suite) (ts a cls d)) (hr:PH X hds wh) :
  PH X (.ExceptHandler (some (.Name x np)) (some n) (b₀ :: suite) pos' :: hds) (ZrL X.K c i ts wh):=by
 refine⟨fun pins D a σ H cls d s w h=>?_⟩
 obtain⟨b,hb1,hyes,hno⟩:=h
 obtain⟨oe,T,oT,vs,tt,F,ha,hT,hd,hdT,h3,na,nt,nF,tF⟩:=w.fly C
 have J:=w.inv C
 refine wpAny_handleBy_cons (codeAny_handlers_test ?_) (by intro q; cases q)
 have LT:PySem.W.Looks (model X.prog X.w) s.heap (typeOf (.ref a)) cls:=fun A Q E s k q=>wpAny_typeOf_ref (k _ _ ha) (by rw[F.z.1]; exact q)
 have LM:=PySem.W.exm_one (M:=model X.prog X.w) J.kIn LT hb1
 refine w.test C hc (LM.here ?_)
 cases b with
 | false=>exact hr.run pins D a σ H cls d s w (hno rfl)
 | true =>
   refine codeAny_handlers_suite_as ?_
   obtain⟨B,sI,I,nb,up,fl,na',os,ag⟩:=w.ex
   refine HandSPX.lands_againZ fl fun h4 fl4 up4=>?_
   have w4:Wait X pins a σ H cls d { s with heap:=h4 }:=⟨B,sI,I,nb,up.trans up4,fl4,na',os,ag⟩
   obtain⟨oe4,T4,oT4,vs4,tt4,F4,ha4,hT4,hd4,hdT4,h34,na4,nt4,nF4,tF4⟩:=w4.fly C
   have S4:=Wait.suite (xe:=ZqL X a n pos') (w4.inv C) ha4 hd4 na4 nF4 hT4 hdT4 nt4 tF4
   refine store_ok (X:=suY X a oe4 T4 oT4 pins (ZqL X a n pos')) (v:=.ref a) S4 hN hi (.inl hln) rfl (fun s5 S5=>?_) (.inr hln)
   refine wpAny_mono ((hsu a T4 oe4 oT4 cls d pins F4).run [] s5 _ H _ S5 (hyes rfl a na)) (fun f s6 hsp=>?_) (fun e6 s6 z=>z)
   have end_:∀ {σ6:L2.St} {H6:Hp} {Q:YH→Prop},Inv (suY X a oe4 T4 oT4 pins (ZqL X a n pos')) [] σ6 H6 s6→(∀ s7,Inv X pins (σ6.set i none) H6 s7→Q s7) →
     wpAny (model X.prog X.w) X.A (do bindName X.env n .none; unbindBehindTheSuite X.env n pos') (fun _ s7=>Q s7) X.xe s6:=fun {σ6 H6 Q} S6 hq=>gone_ok (ZpA S6 J.ok) hN hi hln hq
   cases f with
   | next=>obtain⟨σ6,H6,S6,q6⟩:=hsp; exact end_ S6 fun s7 J7=>⟨_,_,J7,q6⟩
   | brk=>obtain⟨σ6,H6,S6,q6⟩:=hsp; exact end_ S6 fun s7 J7=>⟨_,_,J7,q6⟩
   | cont=>obtain⟨σ6,H6,S6,q6⟩:=hsp; exact end_ S6 fun s7 J7=>⟨_,_,J7,q6⟩
   | ret u=>obtain⟨v6,σ6,H6,S6,r6,q6⟩:=hsp; exact end_ S6 fun s7 J7=>⟨_,_,_,J7,r6,q6⟩
theorem Zk1{body:List YI}{h0:ExceptHandler}{tb:WX→TS}{pos:Pos}(C:Zk0 X)
  (hb:∀ (W:WX) (pn:List (YD×Obj)) (xe:YG→YH→Prop),L2N.Takes (X.tr pn xe) W→PassesOwn (model X.prog X.w) X.A X.env xe→PSs (X.tr pn xe) body (tb W)) (hh:PH X (h0 :: hds) wh) :
  PS X (.Try body (h0 :: hds) [] [] pos) (fun D σ H=>tb (wh D) D σ H):=by
 refine⟨fun pins s σ H D I h=>?_⟩
 have ok:=I.ok
 have hfr:X.A.frames=some (X.env :: X.outer):=by rw[ok.frames,C.hs]
 refine wpAny_Try_except ?_
 refine wpAny_mono ((hb (wh D) (X.pn++pins) (fun e s₁=>wpAny (model X.prog X.w) X.A (noteFrame e X.env) (fun _ s₂=>wpAny (model X.prog X.w) X.A (setFlight e none) (fun _ s₃ =>
  wpAny (model X.prog X.w) X.A (handleBy e X.env (h0 :: hds)) (SP X pins D) X.xe s₃) X.xe s₂) X.xe s₁) (fun u s' xx=>?_) PassesOwn.looking).run [] s σ H D (I.toTry _) h) (fun f s1 hsp=>?_) (fun e s1 he=>he)
 ·obtain⟨a,B,sI,pins',σ',H',cls,d,rfl,J',nb,up,sky,na,os,ag,w⟩:=xx
  have J:Inv X pins σ' H' sI:=J'.ofTry ok
  have sky':Sky B (X.env :: X.outer) a (L2N.Zn cls d) X.env.locals s'.heap:=by rw[← C.hs]; exact sky
  show wpAny (model X.prog X.w) X.A (noteFrame (.ref a) X.env) _ _ _
  refine L2N.Sky.land L2N.Zn.steady hfr C.hf sky' fun h3 fl3 up3=>?_
  exact hh.run pins D a σ' H' cls d _ ⟨B,sI,J,nb,up.trans up3,fl3,na,os,ag⟩ w
 ·cases f with
  | next=>obtain⟨σ',H',J',q⟩:=hsp; exact wpAny_execs_nil ⟨σ',H',J'.ofTry ok,q⟩
  | brk=>obtain⟨σ',H',J',q⟩:=hsp; exact⟨σ',H',J'.ofTry ok,q⟩
  | cont=>obtain⟨σ',H',J',q⟩:=hsp; exact⟨σ',H',J'.ofTry ok,q⟩
  | ret u=>obtain⟨v,σ',H',J',r,q⟩:=hsp; exact⟨v,σ',H',J'.ofTry ok,r,q⟩
end
end M
namespace M
open PySem L2
def ZpD:PyData→Bool
 | .int _=>true
 | _=>false
def ZF(K:YA):Sp:=fun vs H Q _=>∃ v d,vs=[v]∧Im K H v d∧Q (.bl (ZpD d)) H
theorem Zmf{K:YA}{H:Hp}{Q:VK}{E:XK}{i:Int}(q:Q (.bl true) H):ZF K [.int i] H Q E:=⟨_,_,rfl,.int i,q⟩
theorem Zmg{K:YA}{H:Hp}{Q:VK}{E:XK}{a:YD}{ds:List PyData}(h:Im K H (.ref a) (.tuple ds))(q:Q (.bl false) H):ZF K [.ref a] H Q E:=⟨_,_,rfl,h,q⟩
end M
open PySem L2 M
local macro_rules | `(tactic| row_readAll sq) => `(tactic| first | assumption | exact Za.sqT (by assumption) (by row_readAll sq))
local macro_rules | `(tactic| row_readAll im) => `(tactic| first | assumption | exact Im.mono (by assumption) (by row_readAll im))
local macro_rules | `(tactic| row_readAll ni) => `(tactic| first | exact Ya | (simp only [Yn, Ya, or_false, not_or]; first | assumption | (exact Ne.symm (by assumption)) | (refine ⟨?_, ?_⟩ <;> first | assumption | (exact Ne.symm (by assumption)))))
local macro_rules | `(tactic| row_readAll ob) => `(tactic| first | assumption | exact Za.obj (by assumption) _ _ (by row_readAll ni) (by row_readAll ob))
local macro_rules | `(tactic| row_readAll n) => `(tactic| simp only [ZoT, ZoU, q_c, ZsV, ZsW, ZsX, ZoV, Zra, ZoW, q_if, ZoX, ZsY, ZsZ, Zrb, Zs0, Zrc, ZoY, Zrd, ZoZ, q_asg, Zs1, Zre, Zo0, Zrf, q_drop, Zo1, Zo2, Zo3, Zo4, Zrg, Zrh, Zo5, Zo6, Znn,
 Zs2,Zno,Zs3,Zs4,Zs5,Zri,Zrj,Zo7,Zq8,Zpa,Zrl,Zpf,Zph,Zro,Zpr,Zpn,Znt,Zpo,Zpp,Zs6,Zrp,Zrq,ZrJ,q_aug,Zrk,List.getElem?_cons_zero,List.getElem?_cons_succ,  Znq,Zrm,Zpb,Zpc,Zpd,Zpe,Zpi,Zpj,Zs8,q_i,q_u,ZrF,ZrG,ZrH,ZrI,Zpk,Zns,Zpl,Zpm,Bool.not_true,Bool.not_false,true_and,if_true,if_false,Bool.false_eq_true,decide_true,decide_false,Zrn,String.reduceEq,opW,Zrr,Zrs,Zs7,Zrt,Zru,Zrv,Zrw,Zrx,Zry,Zrz,ZrA,ZrB,ZrC,ZrD,ZrE,Yd,Yi,Nat.reduceAdd,Nat.reduceEqDiff,Option.map_some,Option.map_none])
local macro_rules | `(tactic| row_readAll br) => `(tactic| first
 | ((with_reducible refine ZkQ ?_ ?_); (focus (decide +kernel)))
 | ((with_reducible refine ZmY ?_ ?_); (focus (decide +kernel)))
 | ((with_reducible refine Zl_ ?_ ?_); (focus (first | (decide +kernel) | (with_reducible exact Eq.refl _))))
 | ((with_reducible refine ZmX ?_ ?_); (focus (first | (decide +kernel) | (with_reducible exact Eq.refl _)))))
local macro_rules | `(tactic| row_readAll s2) => `(tactic| first
 | ((with_reducible show rIx _ (V.ref _) (V.int _) _ _); refine Zki (by row_readAll sq) (by rfl) ?_)
 | with_reducible refine Znm (by row_readAll sq) ?_
 | with_reducible refine Zmf ?_
 | ((with_reducible show ZF _ [V.ref _] _ _ _); refine Zmg (by row_readAll im) ?_)
 | ((with_reducible show rIsi _ [V.int _,V.ty _] _ _); first | refine ZmZ (b:=true) (by rfl) ?_ | refine ZmZ (b:=false) (by rfl) ?_)
 | ((with_reducible show rIsi _ [V.bl _,V.ty _] _ _); first | refine Zm0 (b:=true) (by rfl) ?_ | refine Zm0 (b:=false) (by rfl) ?_)
 | ((with_reducible show rIsi _ [V.str _,V.ty _] _ _); first | refine Zm1 (b:=true) (by rfl) ?_ | refine Zm1 (b:=false) (by rfl) ?_)
 | ((with_reducible show rIsi _ [V.non,V.ty _] _ _); first | refine Zgm (b:=true) (.base .non) (by rfl) ?_ | refine Zgm (b:=false) (.base .non) (by rfl) ?_)
 | ((with_reducible show rIsi _ [V.ref _,V.ty _] _ _); first | refine Zm2 (b:=true) (by row_readAll sq) (by rfl) ?_ | refine Zm2 (b:=false) (by row_readAll sq) (by rfl) ?_))
local macro_rules | `(tactic| row_readAll op) => `(tactic| (
 (try simp only[Stm.d,Ex.d]at hi); obtain⟨a,xs,rfl,hs,ha⟩:=hi.of_tup; (try (obtain⟨v0,r,rfl,h0,ha⟩:=ha.of_cons; cases h0.of_str));
 (try (obtain⟨v1,r,rfl,h1,ha⟩:=ha.of_cons; try cases h1.of_str)); (try (obtain⟨v2,r,rfl,h2,ha⟩:=ha.of_cons; try cases h2.of_str));
 (try (obtain⟨v3,r,rfl,h3,ha⟩:=ha.of_cons; try cases h3.of_str)); cases ha.of_nil))
local macro_rules | `(tactic| row_readAll sz) => `(tactic| first | omega | (simp only [ZaF, str_len]; omega) | (simp only [ZaF, str_len] at *; omega))
local macro_rules | `(tactic| row_readAll nx) => `(tactic| first | with_reducible refine Zq_ ?_ | with_reducible refine ZsU ?_)
local macro_rules | `(tactic| row_readAll s) => `(tactic| first | row_readAll n | row_readAll s2 | row_readAll br | row_readAll nx)
local macro_rules | `(tactic| row_readAll go) => `(tactic| repeat row_readAll s)
local macro_rules | `(tactic| row_readAll kp) => `(tactic| first | assumption | exact Za.refl _ _ | exact Za.back (by assumption) (by row_readAll kp) | exact Za.back0 (by assumption) (by row_readAll kp))
local macro_rules | `(tactic| row_readAll ln) => `(tactic| (simp only [Yd, Yi, ZaF]; decide))
local macro_rules | `(tactic| row_readAll s3) => `(tactic| first
 | row_readAll s
 | ((with_reducible show _ ≤ YK∧_); refine⟨by row_readAll sz,?_⟩)
 | ((with_reducible show mkT _ _ _ _); refine ZV (by row_readAll ln) fun _ _ _ _ _=>?_)
 | ((with_reducible show Zl5 _ (V.str _) (V.ref _) _ _); first | refine Zi7 (by row_readAll sq) ?_ | refine Znp (by row_readAll sq) ?_)
 | (simp only[Bool.or_false,Bool.or_true,Bool.true_or,Bool.false_or,Bool.and_true,Bool.true_and,Bool.false_and,Bool.and_false]))
local macro_rules | `(tactic| row_readAll ga) => `(tactic| repeat row_readAll s3)
namespace M
open PySem L2
def Zcz(K:YA)  : TS:=(Xh (tAndV (tCB (rIsi K) (YT (YS 0) (YT (tC (.ty "int")) YZ))) (tNotV (tCB (rIsi K) (YT (YS 0) (YT (tC (.ty "bool")) YZ))))))
def Zin:List Str:=["value"]
theorem Zgo{K:YA}(vs:List V)(H:Hp)(Q:VK)(E:XK)(h:ZF K vs H Q E):Zcz K { nx:=fun _ H'=>Q .non H',rt:=Q } (start Zin vs) H:=by
 obtain⟨v,d,rfl,hi,q⟩:=h
 show Zcz K _ [some v] H
 unfold Zcz
 cases hi <;> (row_readAll go; exact q)
end M
namespace M
open PySem PySem.Spec PyProof.Rows L2
abbrev GI(mg:Str→Option YG)(x:Str)(i:Int):Prop:=∃ u,mg x=some u∧RelV (.int i) u
abbrev GS(mg:Str→Option YG)(x:Str)(z:Str):Prop:=∃ u,mg x=some u∧RelV (.str z) u
def Wk(S:List YD)(J:It)(xs:List V)(H:Hp):Prop:=∀ H2,Za S H H2→J.stop xs.length H2∧(∀ i,i < xs.length→J.go i H2)∧∀ i x H3,i < xs.length→J.yld i H2 x H3→xs[i]? = some x∧Za [] H2 H3
section
variable {K:YA} {σ:L2.St} {H:Hp} {Q:VK} {D:Ends} {S:List YD}
theorem Wk.tup{a:YD}{xs:List V}(h:SqT K H a xs):Wk S (Itt K a) xs H:=fun H2 k =>
 ⟨⟨xs,k.sqT h,YO _⟩,fun i hi=>⟨xs,xs[i],k.sqT h,by simp[hi]⟩,fun i x H3 _ y=>⟨y.2 xs (k.sqT h),y.1 ▸ Za.refl _ _⟩⟩
theorem Wk.lst{a:YD}{xs:List V}(h:SqL K H a xs)(n:a∉S):Wk S (Itl K a) xs H:=fun H2 k =>
 ⟨⟨xs,k.sqL n h,YO _⟩,fun i hi=>⟨xs,xs[i],k.sqL n h,by simp[hi]⟩,fun i x H3 _ y=>⟨y.2 xs (k.sqL n h),y.1 ▸ Za.refl _ _⟩⟩
def signs(x:Str):List V:=x.cps.toList.map fun c=>V.str ⟨#[c]⟩
theorem Wk.str{x:Str}:Wk S (Its x) (signs x) H:=fun H2 k=>by
 have e:(signs x).length=x.cps.size:=by simp[signs]
 refine⟨show x.cps.size ≤ _ by omega,fun i hi=>show i < x.cps.size by omega,fun i v H3 hi y=>?_⟩
 obtain⟨rfl,c,hc,rfl⟩:=y
 refine⟨?_,Za.refl _ _⟩
 simp only[signs,Ym,Array.getElem?_toList,hc,Option.map_some]
theorem Zg6{J:It}{xs:List V}{g:TG}{tb:TS}(w:Wk S J xs H)(Pv:Nat→L2.St→Hp→Prop)(hK:∀ i σ' H',Pv i σ' H'→Za S H H')(h0:Pv 0 σ H)
  (hs:∀ i x σ' H1 H2,xs[i]? = some x→Pv i σ' H1→Za [] H1 H2→g x σ' H2 fun σ2 H3=>tb { D with nx:=Pv (i + 1),ct:=Pv (i + 1),bk:=D.nx } σ2 H3) (hd:∀ σ' H',Pv xs.length σ' H'→D.nx σ' H'):Zi8 J g tb D σ H:=by
 refine loop_gen xs.length Pv h0 (fun σ' H' p=>(w H' (hK _ _ _ p)).1) (fun i σ' H' hi p=>(w H' (hK _ _ _ p)).2.1 i hi) ?_ hd
 intro i σ' H1 x H2 hi p y
 obtain⟨e,k⟩:=(w H1 (hK _ _ _ p)).2.2 i x H2 hi y
 exact hs i x σ' H1 H2 e p k
def ZsF(D:YD)(R:Hp→Prop)(y:V)(H:Hp):Prop:=∃ acc,H D=some (.lst acc)∧acc.length < YK∧R (upd H D (.lst (acc++[y])))
theorem lay{D:YD}{acc:List V}{y:V}{R:Hp→Prop}(h:H D=some (.lst acc))(l:acc.length < YK)(q:∀ H',Za [D] H H'→H' D=some (.lst (acc++[y]))→R H') :
  ZsF D R y H:=⟨acc,h,l,q _ (Za.put h True.intro) Y8⟩
theorem Zm6{J:It}{xs:List V}{g:TG}{tt:TT}{te:TE}{vs:List Nat}(w:Wk S J xs H)(Pv:YD→Nat→Hp→Prop)(hK:∀ D i H2,Pv D i H2→Za S H H2)
  (h0:∀ D H2,H D=none→Za [] H H2→H2 D=some (.lst [])→Pv D 0 H2)
  (hs:∀ D i H2 x H3,H D=none→xs[i]? = some x→Pv D i H2→Za [] H2 H3→g x (wipe σ vs) H3 fun σ2 H4=>wipe σ2 vs=wipe σ vs∧tt σ2 H4 fun b H5 =>
   if b=true then te σ2 H5 fun y H6=>ZsF D (Pv D (i + 1)) y H6 else Pv D (i + 1) H5)
  (hd:∀ D H2,H D=none→Pv D xs.length H2→Q (.ref D) H2):Zkk J g tt te vs σ H Q:=by
 refine Zgd xs.length Pv h0 (fun D H2 p=>(w H2 (hK _ _ _ p)).1) (fun D i H2 hi p=>(w H2 (hK _ _ _ p)).2.1 i hi) ?_ hd
 intro D i H2 x H3 hD hi p y
 obtain⟨e,k⟩:=(w H2 (hK _ _ _ p)).2.2 i x H3 hi y
 exact hs D i H2 x H3 hD e p k
theorem take_snoc{α : Type}{xs:List α}{i:Nat}{x : α}(e:xs[i]? = some x):xs.take (i + 1)=xs.take i++[x]:=by rw[List.take_add_one,e]; rfl
theorem ZeF{α : Type}{xs:List α}{i:Nat}{x : α}(e:xs[i]? = some x):i < xs.length:=(Yk.mp e).1
theorem Ze8{J:It}{xs:List V}{tt:TT}{j:Nat}(f:V→Bool)(w:Wk [] J xs H)(hl:xs.length ≤ YK)(hj:j < σ.length)
  (ht:∀ (i:Nat) (x:V) (H2:Hp) (R:Bool→Hp→Prop),xs[i]? = some x→Za [] H H2→(∀ H3,Za [] H2 H3→R (f x) H3)→tt ((σ.set j none).set j (some x)) H2 R)
  (q:∀ D H2,H D=none→Za [] H H2→H2 D=some (.lst (xs.filter f))→Q (.ref D) H2):Zkk J (Y4 j) tt (YS j) [j] σ H Q:=by
 refine Zm6 w (fun D i H2=>Za [] H H2∧H2 D=some (.lst ((xs.take i).filter f))) (fun _ _ _ p=>p.1) (fun D H2 _ k h=>⟨k,by simpa using h⟩) ?_ (fun D H2 hD p=>q D H2 hD p.1 (by simpa using p.2))
 rintro D i H2 x H3 hD e ⟨k,h⟩ k3
 have hi:=ZeF e
 have h3:=k3.obj _ _ Ya h
 show wipe ((wipe σ [j]).set j (some x)) [j]=wipe σ [j]∧_
 refine⟨by simp[wipe],?_⟩
 refine ht i x H3 _ e (k.trans k3) fun H4 k4=>?_
 have h4:=k4.obj _ _ Ya h3
 have es:=take_snoc e
 have k9:=(k.trans k3).trans k4
 cases hf:f x
 ·exact iteF ⟨k9,by rw[h4,es,List.filter_append]; simp[hf]⟩
 ·refine iteT ⟨x,?_,?_⟩
  ·simp[wipe,hj]
  ·refine lay h4 ?_ fun H5 k5 h5=>⟨k9.step1 k5 hD,by rw[h5,es,List.filter_append]; simp[hf]⟩
   have:=List.length_filter_le f (xs.take i)
   have:(xs.take i).length ≤ i:=by simp; omega
   omega
theorem Zmh{l b:YD}{xs ys:List V}(h:H l=some (.lst xs))(h2:H b=some (.lst ys))(z:xs.length + ys.length ≤ YK)(q:∀ H',Za [l] H H'→H' l=some (.lst (xs++ys))→Q .non H'):rExtend (.ref l) [.ref b] H Q :=
 ⟨l,b,xs,ys,rfl,rfl,h,h2,z,q _ (Za.put h True.intro) Y8⟩
theorem Zk2(ds:List PyData):PyData.eqv (.list ds) (.list [])=ds.isEmpty:=by
 cases ds <;> simp[PyData.eqv,PyData.eqvAll]
theorem Zi_{a b:YD}{xs:List V}{ds:List PyData}(h:H a=some (.lst xs))(d:DpAll K H xs ds)(hb:H b=some (.lst []))(s:SeqAt.shaped (.list ds)=true)(q:Q (.bl xs.isEmpty) H):ZbH K (.ref a) (.ref b) H Q:=by
 refine Zma (.lst (SqL.of h) d) (.lst (SqL.of hb) .nil) s (by decide) ?_
 rw[Zk2]
 cases d <;> exact q
theorem ZnB{a b:YD}{xs:List V}{ds:List PyData}(h:H a=some (.lst xs))(d:DpAll K H xs ds)(hb:H b=some (.lst []))(s:SeqAt.shaped (.list ds)=true)(q:Q (.bl (!xs.isEmpty)) H):Zie K (.ref a) (.ref b) H Q:=by
 refine Zpq (.lst (SqL.of h) d) (.lst (SqL.of hb) .nil) s (by decide) ?_
 rw[Zk2]
 cases d <;> exact q
theorem ZeM(ds:List PyData):SeqAt.shaped (.list ds)=true↔(∀ d∈ds,d.canLay0=true∧d.depth ≤ 63):=by
 rw[← ZkY ds,Zaz,Zaz]
 simp[PyData.canLay0,PyData.depth]
end
section
variable {κ κ' α β : Type} [DecidableEq κ] [DecidableEq κ']
def valA(l:List (κ×α))(k : κ):Option α:=(l.find? fun kv=>decide (kv.1=k)).map (·.2)
def ZbE(l:List (κ×α))(k : κ)(v : α):List (κ×α):=if (l.any fun kv=>decide (kv.1=k))=true then l.map (fun kv=>if kv.1=k then(kv.1,v)else kv)else l++[(k,v)]
def Zk3(l:List (κ×α))(k : κ):List (κ×α):=l.filter fun kv=>decide (kv.1≠k)
theorem Zbz(p : κ×α)(l:List (κ×α))(k : κ):valA (p :: l) k=if p.1=k then some p.2 else valA l k:=by
 unfold valA
 rw[List.find?_cons]
 by_cases e:p.1=k
 ·rw[if_pos e,decide_eq_true e]; rfl
 ·rw[if_neg e,decide_eq_false e]
theorem ZjW(k : κ):valA ([]:List (κ×α)) k=none:=rfl
theorem ZQ{l:List (κ×α)}{k : κ}:valA l k=none↔k∉l.map (·.1):=by
 induction l with
 | nil=>simp[ZjW]
 | cons p r ih =>
   rw[Zbz]
   by_cases e:p.1=k
   ·rw[if_pos e]; simp[e]
   ·rw[if_neg e,ih,Yr,Yn,not_or]
    exact⟨fun z=>⟨fun y=>e y.symm,z⟩,fun z=>z.2⟩
theorem Zaw{l:List (κ×α)}{k : κ}{v : α}(h:valA l k=some v):(k,v)∈l:=by
 induction l with
 | nil=>cases h
 | cons p r ih =>
   rw[Zbz]at h
   by_cases e:p.1=k
   ·rw[if_pos e]at h; cases h; subst e; simp
   ·rw[if_neg e]at h; exact Yf _ (ih h)
theorem Zab{l:List (κ×α)}{k : κ}{v : α}(nd:(l.map (·.1)).Nodup)(h:(k,v)∈l):valA l k=some v:=by
 induction l with
 | nil=>cases h
 | cons p r ih =>
   rw[Yr,List.nodup_cons]at nd
   rw[Zbz]
   rcases Yn.mp h with rfl | h
   ·rw[if_pos rfl]
   ·rw[if_neg,ih nd.2 h]
    rintro rfl
    exact nd.1 (Yv (f:=(·.1)) h)
theorem Zge{l:List (κ×α)}{k k' : κ}{v : α}:valA (ZbE l k v) k'=if k=k' then some v else valA l k':=by
 have key:∀ l:List (κ×α),valA (l.map fun kv=>if kv.1=k then(kv.1,v)else kv) k'=if k=k' then(valA l k').map (fun _=>v)else valA l k':=by
  intro l
  induction l with
  | nil=>simp[ZjW]
  | cons p r ih =>
    rw[Yr,Zbz,Zbz,ih]
    by_cases e1:p.1=k
    ·rw[if_pos e1]
     by_cases e2:k=k'
     ·simp only[e1,e2,if_true,Option.map_some]
     ·have:¬ p.1=k':=fun z=>e2 (e1.symm.trans z)
      simp only[if_neg this,if_neg e2]
    ·rw[if_neg e1]
     by_cases e2:k=k'
     ·have:¬ p.1=k':=fun z=>e1 (z.trans e2.symm)
      simp only[if_neg this,if_pos e2]
     ·simp only[if_neg e2]
 unfold ZbE
 split
 ·rename_i h
  rw[key]
  by_cases e:k=k'
  ·rw[if_pos e,if_pos e]
   cases z:valA l k' with
   | some w=>rfl
   | none =>
     rw[ZQ]at z
     rw[List.any_eq_true]at h
     obtain⟨p,hp,e2⟩:=h
     exact absurd (Yv (f:=(·.1)) hp) (by rw[of_decide_eq_true e2,e]; exact z)
  ·rw[if_neg e,if_neg e]
 ·rename_i h
  unfold valA
  rw[List.find?_append]
  by_cases e:k=k'
  ·subst e
   have:(l.find? fun kv=>decide (kv.1=k))=none:=by
    rw[List.find?_eq_none]
    intro p hp q
    exact h (List.any_eq_true.mpr ⟨p,hp,q⟩)
   rw[this]; simp
  ·rw[if_neg e]
   have:([(k,v)].find? fun kv=>decide (kv.1=k'))=none:=by simp[e]
   rw[this]; simp
theorem Zmi{l:List (κ×α)}{k : κ}{v : α}:(ZbE l k v).map (·.1)=if k∈l.map (·.1)then l.map (·.1)else l.map (·.1)++[k]:=by
 have h:(l.any fun kv=>decide (kv.1=k))=true↔k∈l.map (·.1):=by
  rw[List.any_eq_true,Yq]
  exact⟨fun⟨p,m,e⟩=>⟨p,m,of_decide_eq_true e⟩,fun⟨p,m,e⟩=>⟨p,m,decide_eq_true e⟩⟩
 unfold ZbE
 by_cases e:k∈l.map (·.1)
 ·rw[if_pos (h.mpr e),if_pos e,Yx]
  congr 1
  funext p
  show(if p.1=k then(p.1,v)else p).1=p.1
  split <;> rfl
 ·rw[if_neg (fun z=>e (h.mp z)),if_neg e]; simp
theorem Zk4{l:List (κ×α)}{k : κ}{v : α}(h:(l.map (·.1)).Nodup):((ZbE l k v).map (·.1)).Nodup:=by
 rw[Zmi]
 split
 ·exact h
 ·rename_i z
  refine List.nodup_append.mpr ⟨h,by simp,?_⟩
  intro a ha b hb e
  simp at hb; subst e; subst hb; exact z ha
inductive ZbF (f : κ→κ') (R:V→α→Prop):List (κ'×V)→List (κ×α)→Prop
 | nil:ZbF f R [] []
 | cons {k : κ} {v:V} {x : α} {m:List (κ'×V)} {l:List (κ×α)}:R v x→ZbF f R m l→ZbF f R ((f k,v) :: m) ((k,x) :: l)
variable {f : κ→κ'} {R R':V→α→Prop} {m:List (κ'×V)} {l:List (κ×α)}
theorem ZbF.length(h:ZbF f R m l):m.length=l.length:=by
 induction h with
 | nil=>rfl
 | cons _ _ ih=>simp[ih]
theorem ZbF.mono(h:ZbF f R m l)(g:∀ v x,R v x→R' v x):ZbF f R' m l:=by
 induction h with
 | nil=>exact .nil
 | cons r _ ih=>exact .cons (g _ _ r) ih
theorem ZbF.keys(h:ZbF f R m l):m.map (·.1)=l.map fun p=>f p.1:=by
 induction h with
 | nil=>rfl
 | cons _ _ ih=>simp[ih]
theorem ZbF.val(inj:∀ a b,f a=f b→a=b)(h:ZbF f R m l)(k : κ):(valV m (f k)=none∧valA l k=none)∨∃ v x,valV m (f k)=some v∧valA l k=some x∧R v x:=by
 induction h with
 | nil=>exact .inl ⟨rfl,rfl⟩
 | @cons k0 v x m l r _ ih =>
   rw[show valV ((f k0,v) :: m) (f k)=valA ((f k0,v) :: m) (f k)from rfl,Zbz,Zbz]
   by_cases e:k0=k
   ·rw[if_pos e,if_pos (congrArg f e)]
    exact .inr ⟨v,x,rfl,rfl,r⟩
   ·rw[if_neg e,if_neg fun z=>e (inj _ _ z)]
    exact ih
theorem ZbF.any(inj:∀ a b,f a=f b→a=b)(h:ZbF f R m l)(k : κ):(m.any fun kv=>decide (kv.1=f k))=l.any fun kv=>decide (kv.1=k):=by
 induction h with
 | nil=>rfl
 | @cons k0 v x m l r _ ih =>
   rw[List.any_cons,List.any_cons,ih]
   congr 1
   exact decide_eq_decide.mpr ⟨fun z=>inj _ _ z,fun z=>congrArg f z⟩
theorem ZbF.append{m':List (κ'×V)}{l':List (κ×α)}(h:ZbF f R m l)(h':ZbF f R m' l'):ZbF f R (m++m') (l++l'):=by
 induction h with
 | nil=>exact h'
 | cons r _ ih=>exact .cons r ih
theorem ZbF.put(inj:∀ a b,f a=f b→a=b)(h:ZbF f R m l){k : κ}{v:V}{x : α}(r:R v x):ZbF f R (putK m (f k) v) (ZbE l k x):=by
 unfold putK ZbE
 rw[h.any inj k]
 split
 ·rename_i hh
  clear hh
  induction h with
  | nil=>exact .nil
  | @cons k0 v0 x0 m l r0 _ ih =>
    rw[Yr,Yr]
    by_cases e:k0=k
    ·subst e
     rw[if_pos rfl,if_pos rfl]
     exact .cons r ih
    ·rw[if_neg e,if_neg fun z=>e (inj _ _ z)]
     exact .cons r0 ih
 ·exact h.append (.cons r .nil)
theorem ZbF.drop(inj:∀ a b,f a=f b→a=b)(h:ZbF f R m l){k : κ}:ZbF f R (dropK m (f k)) (Zk3 l k):=by
 unfold dropK Zk3
 induction h with
 | nil=>exact .nil
 | @cons k0 v0 x0 m l r0 _ ih =>
   rw[List.filter_cons,List.filter_cons]
   by_cases e:k0=k
   ·rw[if_neg (by simpa using congrArg f e),if_neg (by simpa using e)]
    exact ih
   ·rw[if_pos (by simpa using fun z=>e (inj _ _ z)),if_pos (by simpa using e)]
    exact .cons r0 ih
theorem ZbF.get(h:ZbF f R m l){i:Nat}{p : κ'×V}(e:m[i]? = some p):∃ k x,l[i]? = some (k,x)∧p.1=f k∧R p.2 x:=by
 induction h generalizing i with
 | nil=>simp at e
 | @cons k0 v0 x0 m l r0 _ ih =>
   cases i with
   | zero=>simp at e; subst e; exact⟨k0,x0,rfl,rfl,r0⟩
   | succ i=>simp at e; obtain⟨k,x,h1,h2⟩:=ih e; exact⟨k,x,by simpa using h1,h2⟩
end
abbrev kS:Str→Key:=Sum.inr
theorem Zak:∀ a b:Str,kS a=kS b→a=b:=fun _ _ h=>Sum.inr.inj h
abbrev kT(k:Str×Str):List Key:=[.inr k.1,.inr k.2]
def rIxD:R2:=fun x y H Q=>∃ a v,x = .ref a∧DGet H a y (some v)∧Q v H
def rInD:R2:=fun y x H Q=>∃ a o,x = .ref a∧DGet H a y o∧Q (.bl o.isSome) H
def rNotInD:R2:=fun y x H Q=>∃ a o,x = .ref a∧DGet H a y o∧Q (.bl (!o.isSome)) H
def ZnC:Hp→VK→Prop:=fun H Q=>∀ p H',H p=none→Za [] H H'→H' p=some (.dK [])→Q (.ref p) H'
def Zio:TE:=fun _ H Q=>ZnC H Q
section
variable {X:Cx} {o i e value:Expr} {pos pos' tpos:Pos} {td ty tv:TE}
theorem Zco(hu:X.A.units + 64 < cLine)(ho:PE X o td)(hi:PE X i ty)(hs:NoSl i):PE X (.Subscript o i pos) (tOp rIxD td ty):=pe_dget (by omega) ho hi hs
theorem ZnD(hu:X.A.units + 64 < cLine)(hi:PE X i ty)(ho:PE X o td):PC X .In i o (tOp rInD ty td):=pc_din (by omega) hi ho
theorem Zc2(hu:X.A.units + 64 < cLine)(hi:PE X i ty)(ho:PE X o td):PC X .NotIn i o (tOp rNotInD ty td):=pc_dnotin (by omega) hi ho
theorem Zk5:PE X (.Dict [] [] pos) Zio:=⟨fun pins s σ H Q I h=>(pe_dnewK (X:=X) (pos:=pos)).run pins s σ H Q I fun p hp=>h p _ hp (Za.new hp) Y8⟩
theorem ZcP(hu:X.A.units + 64 < cLine):PSet X rSetD:=set_dict (by omega)
end
section
variable {K:YA} {σ:L2.St} {H:Hp} {Q:VK} {D:Ends} {a:YD} {m:List (Key×V)}
theorem Zm7:Zio σ H Q=ZnC H Q:=rfl
theorem Zm8(q:∀ p H',H p=none→Za [] H H'→H' p=some (.dK [])→Q (.ref p) H'):ZnC H Q:=q
theorem ZhD{k:Str}{v:V}(h:H a=some (.dK m))(e:valV m (.inr k)=some v)(q:Q v H):rIxD (.ref a) (.str k) H Q:=⟨a,v,rfl,by have:=DGet.k (k:=.inr k) h; rw[e]at this; exact this,q⟩
theorem ZrM{k:Str}(h:H a=some (.dK m))(q:Q (.bl (valV m (.inr k)).isSome) H):rInD (.str k) (.ref a) H Q:=⟨a,_,rfl,DGet.k (k:=.inr k) h,q⟩
theorem Zg7{k:Str}(h:H a=some (.dK m))(q:Q (.bl (!(valV m (.inr k)).isSome)) H):rNotInD (.str k) (.ref a) H Q:=⟨a,_,rfl,DGet.k (k:=.inr k) h,q⟩
theorem Zg8{k:Str}{v:V}{R:Hp→Prop}(h:H a=some (.dK m))(l:m.length < YK)(q:∀ H',Za [a] H H'→H' a=some (.dK (putK m (.inr k) v))→R H'):rSetD (.ref a) (.str k) v H R :=
 ⟨a,_,rfl,DPut.k (k:=.inr k) h l,q _ (Za.put h True.intro) Y8⟩
end
end M
namespace M
open PySem PySem.Spec PyProof.Rows L2 SlX
section
variable {X:Cx} {CX:CXT} {C g:YD} {n:Nat} {sp:Sp} {E:XK}
def ZqM(C:YD)(sp:Sp)(E:XK):R2:=fun x y H Q=>∃ a dx vs,y = .ref a∧Slt H a C dx vs∧sp [.ref a,x] H (fun z H'=>∃ b,z = .bl b∧Q (.bl b) H') E
def ZpE(C:YD)(sp:Sp)(E:XK):R2:=fun x y H Q=>∃ a dx vs,x = .ref a∧Slt H a C dx vs∧sp [.ref a,y] H Q E
theorem ZpF(hs:PySem.W.findIn X.K (.ref C) "__contains__" = some (some (.ref g))) (hf:PySem.W.isFn X.K (.ref g)=true) (F:FnR X.prog X.w X.K X.mg X.base CX n g sp) (hr:Room n X.A) (hx:Passes CX X E) :
  OpR X (compareOp .In) (ZqM C sp E):=by
 intro pins s σ H x y v u Q I rx ry h
 obtain⟨a,dx,vs,rfl,ha,q⟩:=h
 cases (show u=Value.ref a from ry)
 obtain⟨sl,od,_,J,_⟩:=slt_inst I ha
 obtain⟨m,hF⟩:=I.fr
 refine PySem.W.in_K hF I.ok.mod.kin J hs hf ?_
 refine wpAny_mono (wpAny_call (run_fnR (us:=[.ref a,v]) (vs:=[.ref a,x]) F hr hx I (.cons rfl (.cons rx .nil)) q)) (fun w s' z=>?_) fun _ _ x=>x
 obtain⟨z',H',I',rz,b,rfl,qz⟩:=z
 cases (show w=Value.bool b from rz)
 exact wpAny_truthy_bool ⟨.bl b,H',I',rfl,qz⟩
theorem Zk6{pins:List (YD×Obj)}{σ:L2.St}{H:Hp}{s:YH}{Q:VK}{us:List YG}{vs:List V}(F:FnR X.prog X.w X.K X.mg X.base CX n g sp)(hr:Room (n + 1) X.A)(hx:Passes CX X E)(I:Inv X pins σ H s)(r:Vals vs us)(h:sp vs H Q E) :
  wpAny (model X.prog X.w) X.A.in1 (call (.ref g) us) (EP X pins σ Q) X.xe s:=by
 refine wpAny_call (codeAny_mono (F X.A.in1 X.stack s H us vs Q E hr.in1 I.env0.in1 r h) fun r s' hq=>?_)
 cases r with
 | error e=>exact hx pins σ H s e s' I hq
 | ok fl =>
   cases fl with
   | ret u=>exact I.after hq
   | next=>exact False.elim hq
   | brk=>exact False.elim hq
   | cont=>exact False.elim hq
theorem ZpG{a b:Expr}{ta tb:TE}{pos:Pos}(hs:PySem.W.findIn X.K (.ref C) "__getitem__" = some (some (.ref g))) (hfn:PySem.W.fnIn X.K g=true) (hf:PySem.W.isFn X.K (.ref g)=true) (F:FnR X.prog X.w X.K X.mg X.base CX n g sp) (hr:Room (n + 1) X.A) (hx:Passes CX X E)
  (ha:PE X a ta) (hb:PE X b tb) (hsl:∀ v u,subscripted b true v u=runValue (.builtin "lifetime.subscript" ⟨[v,u],[]⟩):=by intro v u; with_unfolding_all rfl):PE X (.Subscript a b pos) (tOp (ZpE C sp E) ta tb):=by
 refine⟨fun pins s σ H Q I h=>?_⟩
 refine Subscript_ (binT ha hb I h fun v u s2 x y H2 I2 rx ry q=>?_)
 obtain⟨o,dx,vs,rfl,hsl2,q⟩:=q
 cases (show v=Value.ref o from rx)
 obtain⟨sl,od,_,J,_⟩:=slt_inst I2 hsl2
 obtain⟨m,hF⟩:=I2.fr
 exact PySem.W.sub_K hF I2.ok.mod.kin J hs hfn hf (Zk6 (vs:=[.ref o,y]) F hr hx I2 (.cons rfl (.cons ry .nil)) q) (hsl _ _)
end
end M
namespace M
open PySem PySem.Spec PyProof.Rows L2
def leS(a b:Str):Bool:=!ltCps b.cps.toList a.cps.toList
theorem ZhE(a b:Str):leS a b=true↔a.cps.toList ≤ b.cps.toList:=by
 unfold leS
 rw[ltCps_eq]
 simp
theorem Zip(a b c:Str)(h1:leS a b=true)(h2:leS b c=true):leS a c=true:=by
 rw[ZhE]at *
 exact List.le_trans h1 h2
theorem Zk7(a b:Str):(leS a b || leS b a)=true:=by
 rw[Bool.or_eq_true,ZhE,ZhE]
 exact List.le_total a.cps.toList b.cps.toList
theorem Ziq{a b:Str}(h1:leS a b=true)(h2:leS b a=true):a=b:=by
 rw[ZhE]at *
 have e:=List.le_antisymm h1 h2
 obtain⟨x⟩:=a
 obtain⟨y⟩:=b
 have:x=y:=Array.toList_inj.mp e
 rw[this]
def Zdg(l:List Str):List Str:=l.mergeSort leS
theorem ZbJ(l:List Str):(Zdg l).Perm l:=List.mergeSort_perm l leS
theorem Zdt(l:List Str):(Zdg l).Pairwise fun a b=>leS a b=true:=List.pairwise_mergeSort Zip Zk7 l
theorem Zgp:∀ {l:List Str},sortedS l=true→l.Pairwise fun a b=>leS a b=true
 | [],_=>.nil
 | [x],_=>by simp
 | x :: y :: r,h=>by
   have h':(!ltCps y.cps.toList x.cps.toList && risingS y r)=true:=h
   rw[Bool.and_eq_true]at h'
   have ih:=Zgp (l:=y :: r) h'.2
   refine List.pairwise_cons.mpr ⟨fun z hz=>?_,ih⟩
   rcases Yn.mp hz with rfl | hz
   ·exact h'.1
   ·exact Zip _ _ _ h'.1 ((List.pairwise_cons.mp ih).1 z hz)
theorem ZeN:∀ {l m:List Str},l.Perm m→(l.Pairwise fun a b=>leS a b=true)→(m.Pairwise fun a b=>leS a b=true)→l=m
 | [],m,p,_,_=>(List.nil_perm.mp p).symm
 | x :: l,[],p,_,_=>absurd p.length_eq (by simp)
 | x :: l,y :: m,p,h1,h2=>by
   have hx:=List.pairwise_cons.mp h1
   have hy:=List.pairwise_cons.mp h2
   have e:x=y:=by
    have m1:x∈y :: m:=p.mem_iff.mp Yg
    have m2:y∈x :: l:=p.mem_iff.mpr Yg
    rcases Yn.mp m1 with e | m1
    ·exact e
    ·rcases Yn.mp m2 with e | m2
     ·exact e.symm
     ·exact Ziq (hx.1 y m2) (hy.1 x m1)
   subst e
   rw[ZeN (List.perm_cons x |>.mp p) hx.2 hy.2]
theorem Zmj{ys ks:List Str}(p:ys.Perm ks)(s:sortedS ys=true):ys=Zdg ks:=ZeN (p.trans (ZbJ ks).symm) (Zgp s) (Zdt ks)
theorem ZeO{a b:List Str}(p:a.Perm b):Zdg a=Zdg b:=ZeN ((ZbJ a).trans (p.trans (ZbJ b).symm)) (Zdt a) (Zdt b)
theorem Zcp{l:List Str}{x:Str}:x∈Zdg l↔x∈l:=(ZbJ l).mem_iff
theorem Zk8(l:List Str):(Zdg l).length=l.length:=(ZbJ l).length_eq
theorem ZeP{l:List Str}(h:l.Nodup):(Zdg l).Nodup:=(ZbJ l).nodup_iff.mpr h
end M
namespace M
open PySem PySem.Spec PyProof.Rows L2 HotX L2H
section
variable {prog:YE} {w:YF} {A:Around} {E:YG→YH→Prop} {s:YH}
end
section
variable {P:YE} {w:YF} {K:YA} {tg:Expr}
end
section
variable {X:Cx} {tg:Expr}
end
section
variable {X:Cx} {pins:List (YD×Obj)} {σ:L2.St} {H:Hp} {s:YH}
end
section
variable {X:Cx}
end
end M
namespace M
open PySem PySem.Spec PySem.Calls PySem.W PyProof.Rows PyProof.V L2 HotX L2H
def Clm(A:Around)(x1:YD)(h:Heap):Prop:=A.handled=none∨HotAt A x1 h
theorem Clm.keep{A:Around}{x1:YD}{h h':Heap}(c:Clm A x1 h)(k:∀ o,h.get? x1=some o→h'.get? x1=some o):Clm A x1 h':=by
 rcases c with c | ⟨hh,o,vs,e,r⟩
 ·exact .inl c
 ·exact .inr ⟨hh,o,vs,k o e,r⟩
section
variable {prog:YE} {w:YF} {A:Around} {E:YG→YH→Prop} {s:YH} {es:Array DictEntry} {ep:Nat} {o:Obj}
end
structure Sto{α : Type}(lt : α→α→Bool):Prop where
 irr:∀ a,lt a a=false
 tr:∀ a b c,lt a b=true→lt b c=true→lt a c=true
 tot:∀ a b,lt a b=false→lt b a=false→a=b
section
variable {α : Type} [DecidableEq α] {lt : α→α→Bool}
def leO(lt : α→α→Bool)(a b : α):Bool:=!lt b a
theorem Sto.le_trans(o:Sto lt)(a b c : α)(h1:leO lt a b=true)(h2:leO lt b c=true):leO lt a c=true:=by
 unfold leO at *
 simp only[Bool.not_eq_true']at *
 cases e:lt c a with
 | false=>rfl
 | true =>
   cases e2:lt a b with
   | true=>rw[o.tr _ _ _ e e2]at h2; cases h2
   | false=>rw[o.tot _ _ h1 e2]at h2; rw[e]at h2; cases h2
theorem Sto.le_total(o:Sto lt)(a b : α):(leO lt a b || leO lt b a)=true:=by
 unfold leO
 cases e:lt b a with
 | false=>rfl
 | true =>
   cases e2:lt a b with
   | false=>rfl
   | true=>have:=o.tr _ _ _ e e2; rw[o.irr]at this; cases this
def ZpH(lt : α→α→Bool)(l:List α):List α:=l.mergeSort (leO lt)
theorem Sto.sorted(o:Sto lt)(l:List α):(ZpH lt l).Pairwise fun a b=>leO lt a b=true:=List.pairwise_mergeSort o.le_trans o.le_total l
end
def ltS(a b:Str):Bool:=decide (a.cps.toList < b.cps.toList)
def ltP(a b:Str×Str):Bool:=if a.1=b.1 then ltS a.2 b.2 else ltS a.1 b.1
abbrev Zk9(l:List (Str×Str)):List (Str×Str):=ZpH ltP l
def itemAt(h:Heap)(v:YG)(i:Nat):Str:=match v with
 | .ref a=>(match h.get? a with
   | some o=>(match o.data with
     | .seq xs _=>(match xs[i]? with
       | some (.str x _)=>x
       | _=>⟨#[]⟩)
     | _=>⟨#[]⟩)
   | none=>⟨#[]⟩)
 | _=>⟨#[]⟩
def ZsG(h:Heap)(v:YG):Str×Str:=(itemAt h v 0,itemAt h v 1)
def Pr2(h:Heap)(v:YG)(k:Str×Str):Prop:=∃ (a:YD) (t u:Tok),v = .ref a∧IsTup h a #[.str k.1 t,.str k.2 u]
theorem Pr2.key{h:Heap}{v:YG}{k:Str×Str}(x:Pr2 h v k):ZsG h v=k:=by
 obtain⟨a,t,u,rfl,o,ho,hc,n,hd⟩:=x
 simp only[ZsG,itemAt,ho,hd]
 rfl
theorem Pr2.keep{h h':Heap}{v:YG}{k:Str×Str}(x:Pr2 h v k)(e:∀ b o,h.get? b=some o→o.cls = .type "tuple" → h'.get? b=some o):Pr2 h' v k:=by
 obtain⟨a,t,u,rfl,o,ho,hc,r⟩:=x
 exact⟨a,t,u,rfl,o,e _ _ ho hc,hc,r⟩
section
variable {prog:YE} {w:YF} {A:Around} {E:YG→YH→Prop} {s:YH}
end
def Cm(X:Cx):Prop:=X.calm=true∨HotC X
section
variable {X:Cx} {pins:List (YD×Obj)} {σ:L2.St} {H:Hp} {s:YH}
theorem Cm.at(c:Cm X)(I:Inv X pins σ H s){d:YD}(hd:d < s.heap.objs.size):∃ x1,x1 < s.heap.objs.size∧Clm X.A x1 s.heap:=by
 rcases c with c | c
 ·exact⟨d,hd,.inl (I.ok.hd c)⟩
 ·obtain⟨x1,hot⟩:=c.at I
  obtain⟨hh,o,vs,e,r⟩:=hot
  exact⟨x1,Heap.lt_size e,.inr ⟨hh,o,vs,e,r⟩⟩
end
def PrA(H:Hp)(k:Str×Str)(b:YD):Prop:=H b=some (.tup [.str k.1,.str k.2])
def rSortT:List V→Hp→VK→Prop:=fun vs H Q=>∃ (a:YD) (kvs:List (List L2.Key×V)) (ks:List (Str×Str)),vs=[.ref a]∧Rd H a (.dT kvs)∧kvs.map (·.1)=ks.map kT∧ks.length < 64 ∧
 ∀ l H' bs,H l=none→Za [] H H'→H' l=some (.lst (bs.map V.ref))→Paired (PrA H') (Zk9 ks) bs→Q (.ref l) H'
end M
namespace M
open PySem PySem.Spec PyProof.Rows L2
section
variable {prog:YE} {w:YF} {A:Around} {E:YG→YH→Prop} {s:YH}
end
section
variable {X:Cx} {pins:List (YD×Obj)} {σ:L2.St} {H:Hp} {s:YH} {a b:YD} {kvs:List (List Key×V)} {k:List Key} {A:Around} {E:YG→YH→Prop}
end
def ZrN(x y:V)(H:Hp)(R:Hp→Prop):Prop:=∃ a b kvs k v,x = .ref a∧y = .ref b∧H a=some (.dT kvs)∧H b=some (.tup (k.map kV))∧valV kvs k=some v∧R (upd H a (.dT (dropK kvs k)))
def ZpI(to ti:TE):TS:=fun D σ H=>to σ H fun x H1=>ti σ H1 fun y H2=>ZrN x y H2 (D.nx σ)
section
variable {X:Cx} {o i:Expr} {to ti:TE} {tpos pos:Pos}
end
end M
namespace M
open PySem PySem.Spec PyProof.Rows L2 L2H
structure Zoy(P:YE)(w:YF)(K:YA)(mg:Str→Option YG)(base:Heap)(k:Nat)(C:YD)(m:Str)(sp:Sp):Prop where
 ex:∃ (f:YD) (fd:YC) (ps:List Str),Cls K C∧Meth K C m f∧Xl P w K mg base (L2N.CX P w) k f fd ps sp∧Binds K fd ps []
structure Zto(P:YE)(w:YF)(K:YA)(mg:Str→Option YG)(base:Heap)(k:Nat)(C:YD)(m:Str)(sp:Sp):Prop where
 ex:∃ (f:YD) (fd:YC) (ps:List Str),Cls K C∧Meth K C m f∧FnH P w K mg base CX0 k f fd ps sp∧Binds K fd ps []
structure Ztp(P:YE)(w:YF)(K:YA)(mg:Str→Option YG)(base:Heap)(k:Nat)(x:Str)(C:YD)(sp:Sp):Prop where
 ex:∃ (f:YD) (fd:YC) (ps:List Str),Mk K C f∧FnH P w K mg base CX0 k f fd ps sp∧mg x=some (.ref C)∧Binds K fd ps []
section
variable {X:Cx} {k j:Nat} {C f:YD} {fd:YC} {ps:List Str} {x m:Str} {sp:Sp} {p pos apos:Pos} {e o:Expr} {es:List Expr} {ta:TE} {t:TA} {W:WX} {CX:CXT} {E:L2.St→XK}
end
section
variable {P:YE} {w:YF} {K:YA} {mg:Str→Option YG} {base:Heap} {x qual:Str} {params:Arguments} {body:List YI} {scope:Scope} {f:YD} {fd:YC}
theorem Zk_{N:List Str}{cdv:YG}{A:Around}{outer:List Env}{s:YH}{H:Hp}{E:XK}:L2N.Takes (cxOf (L2N.CX P w) P w K mg base N qual scope f cdv A outer s H E) (fun cls d _ H=>E cls d H) :=
 L2N.takes_of rfl rfl rfl (E₁:=fun e' s''=>L2N.CX P w outer H s E e' s'') rfl
theorem ZqN{CX:CXT}{N:List Str}{cdv:YG}{A:Around}{outer:List Env}{s:YH}{H:Hp}{E:XK}:Zk0 (cxOf CX P w K mg base N qual scope f cdv A outer s H E):=by
 refine⟨rfl,rfl,rfl,fun hd=>?_⟩
 exact L2H.passesAt_of rfl hd
end
theorem Zm9{X:Cx}{a T C:YD}{oe oT:Obj}{cls:YG}{d:Option YD}{pins:List (YD×Obj)}{xe:YG→YH→Prop}{e:Expr}{te:TE}{pos:Pos}{n:Str}(T':XfC X.K C)(hno:PySem.W.findIn X.K (.ref C) n=some none)
  (F:ZqK X a oe T oT cls d pins) (he:PE (suY X a oe T oT pins xe) e te) (hb:attributeBase e n X.env (eval e X.env)=eval e X.env:=by rfl) :
  PE (suY X a oe T oT pins xe) (.Attribute e n pos) (tXf a cls d C n te):=by
 refine⟨fun pn' s σ H Q I h=>?_⟩
 refine attr_of hb (thn (he.run pn' s σ H _ I h) fun u s1 hh=>?_)
 obtain⟨x,H1,I1,rx,ex,ec,dd,fs,v,ed,ea,l,q⟩:=hh
 subst ex
 obtain rfl:u=Value.ref a:=rx
 subst ec
 subst ed
 obtain⟨ha,_⟩:=I1.pin (a,oe) (Yo _ Yg)
 obtain⟨vs,tt,hd,_⟩:=F.f
 have hx:ObjOk X.prog X.w H1 s1.heap dd (.xd fs):=I1.hok dd _ ea
 obtain⟨mA,hns,hr⟩:=hx
 obtain⟨od,ho,hl⟩:=lookIn_ns hns
 obtain⟨u,hu,ru⟩:=RelO.some_of (v:=v) (o:=mA n) (by rw[← l]; exact hr n)
 have J:PySem.W.InstAt s1.heap a oe C (some od):=⟨ha,F.z.1,by unfold PySem.W.notCls; rw[hd] <;> rfl,by rw[F.z.2.1]; exact ho⟩
 exact HandSPX.exc_get I1.kIn J T'.ga T'.gg T'.exC (PySem.W.findObj_own T'.hdC hno rfl (by rw[hl,hu])) (handed_of ru) ⟨v,H1,I1.tok _,ru,q⟩
end M
namespace M
open PySem PySem.Spec PyProof.Rows L2 L2H SlX
structure XMk(P:YE)(w:YF)(K:YA)(mg:Str→Option YG)(base:Heap)(k:Nat)(x:Str)(C:YD)(fs:List Str):Prop where mk0 ::
 ex:∃ (fI:YD) (fd:YC) (B newId i:String) (bmB:List YG),Zpv K C fI B newId i bmB fs∧Xl P w K mg base CX0 k fI fd ("self" :: fs) (Zim C fs) ∧
  (∀ (s:YH) (u:YG) (ws:List YG),ws.length=fs.length→BindsTo s fd ⟨[u],fs.zip ws⟩ ((("self" : Str) :: fs).zip (u :: ws)))∧mg x=some (.ref C)
structure ZnE(P:YE)(w:YF)(K:YA)(mg:Str→Option YG)(base:Heap)(k:Nat)(C:YD)(spc spg:Sp):Prop where
 con:∃ g,PySem.W.findIn K (.ref C) "__contains__" = some (some (.ref g))∧PySem.W.isFn K (.ref g)=true∧FnR P w K mg base CX0 k g spc
 itm:∃ g,PySem.W.findIn K (.ref C) "__getitem__" = some (some (.ref g))∧PySem.W.fnIn K g=true∧PySem.W.isFn K (.ref g)=true∧FnR P w K mg base CX0 k g spg
structure MSl(P:YE)(w:YF)(K:YA)(mg:Str→Option YG)(base:Heap)(k:Nat)(C:YD)(m:Str)(sp:Sp):Prop where
 ex:∃ g,SCls K C∧Meth K C m g∧FnR P w K mg base CX0 k g sp
structure PSl(P:YE)(w:YF)(K:YA)(mg:Str→Option YG)(base:Heap)(k:Nat)(C:YD)(f:Str)(sp:Sp):Prop where
 ex:∃ p g,SCls K C∧PySem.W.findIn K (.ref C) f=some (some (.ref p))∧PySem.W.specialIn K (.ref p) "__get__" = some (some (.builtin "property.__get__"))∧PySem.W.takesIn K (.ref p)=some true∧(∃ rest,PySem.W.recIn K p "property" = some (.ref g :: rest))∧FnR P w K mg base CX0 k g sp
structure Ztq(P:YE)(w:YF)(K:YA)(mg:Str→Option YG)(base:Heap)(k:Nat)(x:Str)(sp:Sp)(n:Nat)(ks:List Str)(gV:List V→List V→List V):Prop where
 ex:∃ (f:YD) (fd:YC) (ps:List Str) (g:List YG→List YG→List YG),Xl P w K mg base CX0 k f fd ps sp∧mg x=some (.ref f)∧PySem.W.keepIn K (.ref f)=true∧KBn K fd ps n ks g gV
section
variable {X:Cx} {k j n:Nat} {C:YD} {x m f:Str} {sp spc spg:Sp} {fs ks:List Str} {kws:List Keyword} {tk t:TA} {p pos apos:Pos} {e o:Expr} {es:List Expr} {ta tb:TE} {gV:List V→List V→List V}
theorem XMk.mk(c:XMk X.prog X.w X.K X.mg X.base k x C fs)(hr:Room j X.A)(hk:k + 1 ≤ j)(hg:Gl X x)(hkw:PK X kws tk)
  (hall:(backToKw pos (keywordEach kws X.env)).all (·.1.isSome)=true:=by rfl) (hks:(backToKw pos (keywordEach kws X.env)).filterMap (·.1)=fs:=by rfl) (hdb:(x == ("__debug__" : Str))=false:=by decide)
  (hpl:((backTo pos (starEach [] X.env)).any (·.1) || (backToKw pos (keywordEach kws X.env)).any (·.1.isNone))=false:=by rfl) :
  L2N.PMk X (.Call (.Name x p) [] kws pos) (Zox C fs tk):=by
 obtain⟨fI,fd,B,newId,i,bmB,T,F,hb,hm⟩:=c.ex
 exact Zpw T F (hr.mono hk) hb C8.pass0 hg hm hkw hall hks hdb hpl
theorem ZnE.cin(c:ZnE X.prog X.w X.K X.mg X.base k C spc spg)(hr:Room j X.A)(hk:k + 1 ≤ j):OpR X (compareOp .In) (ZqM C spc E0):=by
 obtain⟨g,h1,h2,F⟩:=c.con
 exact ZpF h1 h2 F (hr.mono (by omega)) C8.pass0
theorem ZnE.ix{a b:Expr}(c:ZnE X.prog X.w X.K X.mg X.base k C spc spg)(hr:Room j X.A)(hk:k + 1 ≤ j)(ha:PE X a ta)(hb:PE X b tb)(hsl:∀ v u,subscripted b true v u=runValue (.builtin "lifetime.subscript" ⟨[v,u],[]⟩):=by intro v u; with_unfolding_all rfl):PE X (.Subscript a b pos) (tOp (ZpE C spg E0) ta tb):=by
 obtain⟨g,h1,h2,h3,F⟩:=c.itm
 exact ZpG h1 h2 h3 F (hr.mono hk) C8.pass0 ha hb hsl
theorem Zla{pl:Sem Bool}(c:MSl X.prog X.w X.K X.mg X.base k C m sp)(hr:Room j X.A)(hk:k ≤ j)(he:PE X o ta)(ha:PA X (e :: es) t)
  (hst:starEach (e :: es) X.env=(false,eval e X.env) :: starEach es X.env:=by rfl) (hpl:(backTo pos (starEach es X.env)).any (·.1)=false:=by rfl)
  (ht:eval (.Call (.Attribute o m apos) (e :: es) [] pos) X.env=(do
   let ov ← eval o X.env
   standAt apos.atName
   let (f,first) ← holding [ov] (getMethod ov m pl)
   callWith pos f first (backTo pos (starEach (e :: es) X.env)) (backToKw pos (keywordEach [] X.env))):=by rfl) :
  PE X (.Call (.Attribute o m apos) (e :: es) [] pos) (tMethSl C sp E0 ta t):=by
 obtain⟨g,h1,h2,F⟩:=c.ex
 exact pe_methSl (pl:=pl) he h1 h2 F (hr.mono hk) C8.pass0 ha hst hpl ht
theorem ZpJ{pl:Sem Bool}(c:MSl X.prog X.w X.K X.mg X.base k C m sp)(hr:Room j X.A)(hk:k ≤ j)(he:PE X o ta)
  (ht:eval (.Call (.Attribute o m apos) [] [] pos) X.env=(do
   let ov ← eval o X.env
   standAt apos.atName
   let (f,first) ← holding [ov] (getMethod ov m pl)
   callWith pos f first (backTo pos (starEach [] X.env)) (backToKw pos (keywordEach [] X.env))):=by rfl) :
  PE X (.Call (.Attribute o m apos) [] [] pos) (tMethSl C sp E0 ta YZ):=by
 obtain⟨g,h1,h2,F⟩:=c.ex
 exact pe_methSl0 (pl:=pl) he h1 h2 F (hr.mono hk) C8.pass0 ht
end
section
variable {P:YE} {w:YF} {K:YA} {mg:Str→Option YG} {base:Heap} {j k:Nat} {C f:YD} {fd:YC} {ps:List Str} {m:Str} {sp sp':Sp} {CX:CXT}
theorem Zoy.mono(c:Zoy P w K mg base j C m sp)(h:j ≤ k):Zoy P w K mg base k C m sp:=by
 obtain⟨f,fd,ps,h1,h2,F,b⟩:=c.ex
 exact⟨f,fd,ps,h1,h2,F.mono h,b⟩
theorem Zoy.imp(c:Zoy P w K mg base k C m sp)(h:∀ vs H Q E,sp' vs H Q E→sp vs H Q E):Zoy P w K mg base k C m sp':=by
 obtain⟨f,fd,ps,h1,h2,F,b⟩:=c.ex
 exact⟨f,fd,ps,h1,h2,F.imp h,b⟩
theorem ZeG(F:Xl P w K mg base CX k f fd ps sp)(hb:Binds K fd ps []):FnR P w K mg base CX k f sp:=(F.raw hb .nil).imp fun vs H Q E h=>by rw[List.append_nil]; exact h
theorem takes0{X:Cx}:L2N.Takes X (fun _ _ _ _=>False):=by
 rintro u s' ⟨a,B,sI,pins,σ,H,cls,d,e,I,nb,up,sky,na,os,ag,w⟩
 exact w.elim
end
end M
namespace M
open PySem PySem.Spec PyProof.Rows L2 HotX L2H
section
variable {prog:YE} {w:YF} {A:Around} {E:YG→YH→Prop} {s:YH}
end
end M
namespace M
open PySem PySem.Spec PyProof.Rows L2 L2H SlX
def top(i:Nat):YI:=PySem.Challenge.pw_modlink_k02_programs_as_sets.main.body.getD i (.Pass ⟨0,0,0,0⟩)
abbrev Zal:YI:=Xf (top 4) 0
abbrev ZaH:YI:=top 13
abbrev Zb0:YI:=top 14
abbrev Zbp:YI:=top 15
abbrev ZbK:YI:=top 16
abbrev ZW:YI:=top 17
abbrev Z8:YI:=top 18
abbrev ZbL:YI:=top 19
abbrev Zu:YI:=top 20
abbrev Zm:YI:=top 21
abbrev Zaq:YI:=top 22
abbrev ZB:YI:=Xf (top 24) 1
abbrev Zh:YI:=Xf (top 24) 2
abbrev Zr:YI:=Xf (top 24) 3
abbrev ZN:YI:=Xf (top 24) 4
abbrev ZX:YI:=Xf (top 24) 6
abbrev ZY:YI:=Xf (top 24) 7
abbrev ZG:YI:=Xf (top 24) 8
abbrev Zv:YI:=Xf (top 24) 9
abbrev Ze:YI:=Xf (top 24) 10
abbrev Zj:YI:=Xf (top 24) 11
abbrev Zd:YI:=Xf (top 24) 12
abbrev Zcq:YI:=top 26
abbrev ZbM:YI:=top 27
abbrev ZaI:YI:=top 28
abbrev Zbr:YI:=top 29
abbrev Zbq:YI:=top 30
abbrev Zar:YI:=top 31
abbrev ZbN:YI:=top 32
abbrev ZbO:YI:=top 33
abbrev Z9:YI:=top 34
abbrev Zbs:YI:=top 35
abbrev ZZ:YI:=top 36
abbrev Zas:YI:=top 37
abbrev ZbP:YI:=top 38
abbrev Zcg:YI:=top 39
abbrev ZaJ:YI:=top 40
abbrev Z4:YI:=top 41
abbrev Z5:YI:=top 42
abbrev Zir:YI:=top 43
end M
namespace M
open PySem PySem.Spec PyProof.Rows L2
theorem ZaS{P:YE}{w:YF}{K:YA}{mg:Str→Option YG}{base:Heap}{k:Nat}{x:Str}{sp:Sp}{f:YD}{fd:YC}{ps:List Str}(F:Xl P w K mg base CX0 k f fd ps sp)(hm:mg x=some (.ref f))(kp:PySem.W.keepIn K (.ref f)=true)(b:Binds K fd ps []):C8.Cal P w K mg base k x sp [] :=
 ⟨⟨f,fd,ps,[],F,hm,kp,b,.nil⟩⟩
theorem ZpK{P:YE}{w:YF}{K:YA}{mg:Str→Option YG}{base:Heap}{k k':Nat}{x:Str}{sp:Sp}{f:YD}{fd:YC}{ps:List Str}(F:Xl P w K mg base CX0 k f fd ps sp)(e:k=k')(hm:mg x=some (.ref f))(kp:PySem.W.keepIn K (.ref f)=true)(b:Binds K fd ps []):C8.Cal P w K mg base k' x sp []:=by
 subst e; exact ZaS F hm kp b
theorem Zfw{P:YE}{w:YF}{K:YA}{mg:Str→Option YG}{base:Heap}{k:Nat}{sp:Sp}{f:YD}{fd:YC}{ps:List Str}(no:∀ vs H Q E,¬ sp vs H Q E):Xl P w K mg base CX0 k f fd ps sp :=
 ⟨fun vs H Q E h=>absurd h (no vs H Q E),fun A outer s H args us vs Q E _ _ _ _ h=>absurd h (no vs H Q E)⟩
def ZrO(o:Obj):List YD:=match o.data with
 | .dict es _=>es.toList.flatMap fun e=>He.refV e.val
 | .func fd=>He.refV fd.code++(He.refV fd.defaults++(He.refV fd.kwdefaults++fd.closure.map (·.2)))
 | .cls cd=>[cd.ns]
 | .fields vs=>vs.toList.flatMap He.refV
 | .seq its _=>its.toList.flatMap He.refV
 | _=>[]
def ZrP(g:YD→Option Obj)(as:List YD):List YD:=as.flatMap fun a=>match g a with
 | some o=>ZrO o
 | none=>[]
def ZsH(g:YD→Option Obj):Nat→List YD→List YD
 | 0,as=>as
 | n + 1,as=>as++ZsH g n (ZrP g as)
def frB(g:YD→Option Obj)(n:Nat)(xs:List YD):YA:=He.frG g (ZsH g n (mainGlobals :: xs))
structure Zta(fa:List He.Fa)(fn:List He.DefD)(ts:List He.Tab)(ex:YA→Bool)(w:YF)(K:YA):Prop where
 t:He.SaysT fa fn ts w K
 more:ex K=true
theorem ZpL{h:Heap}{n:Nat}{xs:List YD}:(frB h.get? n xs).In h:=He.frG_in
end M
namespace M
open PySem PySem.Spec PyProof.Rows L2 L2H SlX
structure SuD where
 x:Str
 st:YI
 qual:Str
 B:String
 newId:String
 i:String
 bm:List YG
 fs:List Str
abbrev SuV:Type:=Option (Str×Str×Arguments×FuncBody×Scope×YD×List Str×YD)
def SuD.C(K:YA)(d:SuD):YD:=He.ga K d.x
def SuD.f(K:YA)(d:SuD):YD:=He.ma K (He.ga K d.x) "__init__"
def SuD.obs(K:YA)(d:SuD):SuV:=match K.lookup (d.f K)with
 | some ⟨_,_,.func fd,_⟩=>some (fd.name,fd.qualname,fd.params,fd.body,fd.scope,fd.globals,fd.closure.map (·.1),fd.builtins)
 | _=>none
def SuD.val(d:SuD):SuV:=some ("__init__",d.qual,Y1 d.st,.stmts (Y0 d.st),YU d.st,mainGlobals,["__class__"],builtinsNs)
def ZpM(K:YA)(C:YD):List (Str×YD)→Bool
 | [q]=>(match K.lookup q.2 with
   | some ⟨_,_,.cell (some (.ref C')),_⟩=>C' == C
   | _=>false)
 | _=>false
def ZpN(K:YA)(file:Str):YG→Bool
 | .ref cda=>(match K.lookup cda with
   | some ⟨_,_,.fields vs,_⟩=>(match (vs[2]? : Option YG)with
     | some (Value.str fl _)=>file == fl
     | _=>false)
   | _=>false)
 | _=>false
def SuD.fnB(K:YA)(file:Str)(d:SuD):Bool:=match K.lookup (d.f K)with
 | some ⟨_,_,.func fd,_⟩=>PySem.W.codeIn K fd.code d.qual && (ZpM K (d.C K) fd.closure && ZpN K file fd.code)
 | _=>false
def SuD.clB(K:YA)(d:SuD):Bool:=PySem.W.excInitIn K (d.C K) d.bm d.newId && (decide (PySem.W.mroIn K (d.C K) (.ref (d.C K))=some true) && (He.eqO (PySem.W.ks_superIn K (d.C K) (d.C K) "__init__") (some (some (.builtin d.i))) &&
 (decide (PySem.W.subIn K (.ref (d.C K)) (.type d.B)=some true) && (He.eqO (PySem.W.nsIn K PySem.cStatics "thirdparty.any") (some none) && (decide (PySem.W.subIn K (.ref (d.C K)) (.type "BaseException")=some true) &&
 (decide (PySem.W.typeIn K (.ref (d.C K))=some (.type "type")) && (PySem.W.keepIn K (.ref (d.C K)) && (He.eqO (PySem.W.findIn K (.ref (d.C K)) "__init__") (some (some (.ref (d.f K)))) && (decide (PySem.W.typeIn K (.ref (d.f K))=some (.type "function")) &&
 (d.fs.all fun f=>He.eqO (PySem.W.findIn K (.ref (d.C K)) f) (some none)))))))))))
theorem SuD.suDef{P:YE}{K:YA}{d:SuD}(e:d.obs K=d.val)(c:d.fnB K P.main.file=true):∃ fd,Zmd P K d.qual d.st (d.f K) (d.C K) fd:=by
 unfold SuD.fnB at c
 unfold SuD.obs at e
 cases q:K.lookup (d.f K)with
 | none=>rw[q]at c; cases c
 | some o =>
   obtain⟨oc,od,dt,osl⟩:=o
   rw[q]at c e
   cases dt with
   | func fd =>
     obtain⟨n1,n2,n3,n4,n5,n6,n7,n8,n9,n10,n11,n12,n13,n14,n15⟩:=fd
     have e2:(some (n1,n2,n3,n4,n5,n6,n7.map (·.1),n15):SuV)=(some ("__init__",d.qual,Y1 d.st,.stmts (Y0 d.st),YU d.st,mainGlobals,["__class__"],builtinsNs):SuV):=e
     simp only[Option.some.injEq,Prod.mk.injEq]at e2
     obtain⟨h1,h2,h3,h4,h5,h6,h7,h8⟩:=e2
     have c2:(PySem.W.codeIn K n13 d.qual && (ZpM K (d.C K) n7 && ZpN K P.main.file n13))=true:=c
     obtain⟨k1,k2⟩:=He.ba c2
     obtain⟨k3,k4⟩:=He.ba k2
     subst h1 h2 h3 h4 h5 h6 h8
     match n7,h7,k3,q with
     | [(y,cc)],h7,k3,q =>
       have ey:y=("__class__" : Str):=by simpa using h7
       subst ey
       have k3':(match K.lookup cc with
        | some ⟨_,_,.cell (some (.ref C')),_⟩=>C' == d.C K
        | _=>false)=true:=k3
       cases qc:K.lookup cc with
       | none=>rw[qc]at k3'; cases k3'
       | some ob =>
         rw[qc]at k3'
         split at k3'
         ·rename_i cl cld C' csl hob
          cases hob
          have eC:C'=d.C K:=beq_iff_eq.mp k3'
          rw[eC]at qc
          cases n13 with
          | ref cda =>
            have k4':(match K.lookup cda with
             | some ⟨_,_,.fields vs,_⟩=>(match (vs[2]? : Option YG)with
               | some (Value.str fl _)=>P.main.file == fl
               | _=>false)
             | _=>false)=true:=k4
            cases qd:K.lookup cda with
            | none=>rw[qd]at k4'; cases k4'
            | some oo =>
              rw[qd]at k4'
              split at k4'
              ·rename_i ccl cdd vs ccs hoo
               cases hoo
               split at k4'
               ·rename_i fl tf hv
                exact⟨_,⟨oc,od,n8,n9,n10,n11,n12,.ref cda,n14,osl,cc,_,_,_,cda,_,_,vs,_,fl,tf,rfl,q,k1,qc,rfl,qd,hv,k4'⟩⟩
               ·cases k4'
              ·cases k4'
          | _=>cases k4
         ·cases k3'
   | _=>cases c
theorem SuD.xcls{K:YA}{d:SuD}(fb:ExcBaseFacts d.B d.newId d.i d.bm)(kx:PySem.W.KxsFacts d.B d.i)(og:Zkp K (d.C K))(c:d.clB K=true):Zpv K (d.C K) (d.f K) d.B d.newId d.i d.bm d.fs:=by
 obtain⟨c1,c⟩:=He.ba c
 obtain⟨c2,c⟩:=He.ba c
 obtain⟨c3,c⟩:=He.ba c
 obtain⟨c4,c⟩:=He.ba c
 obtain⟨c5,c⟩:=He.ba c
 obtain⟨c6,c⟩:=He.ba c
 obtain⟨c7,c⟩:=He.ba c
 obtain⟨c8,c⟩:=He.ba c
 obtain⟨c9,c⟩:=He.ba c
 obtain⟨c10,c11⟩:=He.ba c
 exact⟨⟨fb,kx,c1,of_decide_eq_true c2,He.eqO_ok c3,of_decide_eq_true c4,He.eqO_ok c5⟩,og,of_decide_eq_true c6,of_decide_eq_true c7,c8,He.eqO_ok c9,of_decide_eq_true c10,fun f hf=>He.eqO_ok (List.all_eq_true.mp c11 f hf)⟩
def ZrQ(K:YA)(C:YD):Bool:=PySem.W.plainGet K C Str.empty && (PySem.W.isClsIn K C && (PySem.W.plainOver K C && He.eqO (PySem.W.findIn K (.ref C) "__setattr__") (some (some (.builtin "object.__setattr__")))))
theorem ZnF{K:YA}{C:YD}(c:ZrQ K C=true):SCls K C:=by
 obtain⟨c1,c⟩:=He.ba c
 obtain⟨c2,c⟩:=He.ba c
 obtain⟨c3,c4⟩:=He.ba c
 exact⟨c1,c2,c3,He.eqO_ok c4⟩
def Zlb(K:YA)(C:YD)(f:Str)(i:Nat):Bool:=He.eqO (PySem.W.findIn K (.ref C) f) (some (some (.ref (He.ma K C f)))) && (He.eqO (PySem.W.specialIn K (.ref (He.ma K C f)) "__get__") (some (some (.builtin "member_descriptor.__get__"))) &&
 (decide (PySem.W.takesIn K (.ref (He.ma K C f))=some true) && (decide (PySem.W.typeIn K (.ref (He.ma K C f))=some (.type "member_descriptor")) && (decide (PySem.W.slotIn K (He.ma K C f) C=some i) && decide (i < 1000)))))
theorem slotB_ok{K:YA}{C:YD}{f:Str}{i:Nat}(c:Zlb K C f i=true):Slot1 K C f (He.ma K C f) i:=by
 obtain⟨c1,c⟩:=He.ba c
 obtain⟨c2,c⟩:=He.ba c
 obtain⟨c3,c⟩:=He.ba c
 obtain⟨c4,c⟩:=He.ba c
 obtain⟨c5,c6⟩:=He.ba c
 exact⟨He.eqO_ok c1,He.eqO_ok c2,of_decide_eq_true c3,of_decide_eq_true c4,of_decide_eq_true c5,of_decide_eq_true c6⟩
def pga(K:YA)(C:YD)(f:Str):YD:=match PySem.W.recIn K (He.ma K C f) "property" with
 | some (.ref g :: _)=>g
 | _=>0
def ZrR(K:YA)(C:YD)(f:Str):Bool:=He.eqO (PySem.W.findIn K (.ref C) f) (some (some (.ref (He.ma K C f)))) && (He.eqO (PySem.W.specialIn K (.ref (He.ma K C f)) "__get__") (some (some (.builtin "property.__get__"))) &&
 (decide (PySem.W.takesIn K (.ref (He.ma K C f))=some true) && (match PySem.W.recIn K (He.ma K C f) "property" with
  | some (.ref g :: _)=>true
  | _=>false)))
structure PrD where
 x:Str
 f:Str
 st:YI
 qual:Str
 cm:Bool:=false
def PrD.g(K:YA)(d:PrD):YD:=match d.cm with
 | false=>pga K (He.ga K d.x) d.f
 | true=>He5.wf K (He.ga K d.x) "classmethod" d.f
def PrD.own(K:YA)(d:PrD):Bool:=match d.cm with
 | false=>ZrR K (He.ga K d.x) d.f
 | true=>He5.wrapB K (He.ga K d.x) "classmethod" "classmethod.__get__" d.f
def PrD.obs(K:YA)(d:PrD):He.FnW:=match K.lookup (d.g K)with
 | some ⟨_,_,.func fd,_⟩=>some (fd.name,fd.qualname,fd.params,fd.body,fd.scope,fd.globals,fd.closure,fd.builtins)
 | _=>none
def PrD.val(d:PrD):He.FnW:=some (d.f,d.qual,Y1 d.st,.stmts (Y0 d.st),YU d.st,mainGlobals,[],builtinsNs)
def PrD.ok(K:YA)(d:PrD):Bool:=d.own K && (PySem.W.keepIn K (.ref (d.g K)) && (match K.lookup (d.g K)with
 | some ⟨_,_,.func fd,_⟩=>PySem.W.codeIn K fd.code d.qual && decide (fd.defaults = .none)
 | _=>false))
abbrev AlC:Type:=He.AlT×Bool×List SuV×List He.FnW
def ZqO(n:Nat)(xs:List YD)(fa:List He.Fa)(fn:List He.DefD)(ts:List He.Tab)(su:List SuD)(pr:List PrD)(ex:YA→Bool)(g:YD→Option Obj):AlC:=(fun K=>(He.obsT fa fn ts K,ex K,su.map (SuD.obs K),pr.map (PrD.obs K))) (frB g n xs)
def ZsI(fn:List He.DefD)(ts:List He.Tab)(su:List SuD)(pr:List PrD)(w:YF):AlC:=(He.valT fn ts w,true,su.map SuD.val,pr.map PrD.val)
structure Zlc(fa:List He.Fa)(fn:List He.DefD)(ts:List He.Tab)(su:List SuD)(pr:List PrD)(ex:YA→Bool)(w:YF)(K:YA):Prop where
 t:He.SaysT fa fn ts w K
 more:ex K=true
 su:su.map (SuD.obs K)=su.map SuD.val
 pr:pr.map (PrD.obs K)=pr.map PrD.val
section
variable {n:Nat} {xs:List YD} {fa:List He.Fa} {fn:List He.DefD} {ts:List He.Tab} {su:List SuD} {pr:List PrD} {ex:YA→Bool} {w:YF}
theorem Zmk{h:Heap}(e:ZqO n xs fa fn ts su pr ex h.get? = ZsI fn ts su pr w):Zlc fa fn ts su pr ex w (frB h.get? n xs) :=
 ⟨congrArg (fun z:AlC=>z.1) e,congrArg (fun z:AlC=>z.2.1) e,congrArg (fun z:AlC=>z.2.2.1) e,congrArg (fun z:AlC=>z.2.2.2) e⟩
def ZpO(n:Nat)(xs:List YD)(fa:List He.Fa)(fn:List He.DefD)(ts:List He.Tab)(su:List SuD)(pr:List PrD)(ex:YA→Bool):PySem.W.Hook where
 α:=AlC
 obs:=fun s=>ZqO n xs fa fn ts su pr ex s.heap.get?
 val:=fun w=>ZsI fn ts su pr w
 says:=fun w h=>∃ K:YA,K.In h∧Zlc fa fn ts su pr ex w K
 of:=fun _ _ e=>⟨_,ZpL,Zmk e⟩
 keeps:=fun _ _ _ ⟨K,hK,c⟩ k=>⟨K,YA.In.keeps hK k,c⟩
theorem ZnG{g:YD→Option Obj}{s:YH}(h:∀ a,g a=s.heap.get? a):ZqO n xs fa fn ts su pr ex g=(ZpO n xs fa fn ts su pr ex).obs s:=by
 have e:g=s.heap.get?:=funext h
 rw[e] <;> rfl
theorem Zlc.su_{K:YA}(c:Zlc fa fn ts su pr ex w K)(i:Nat){d:SuD}(h:su[i]? = some d:=by rfl):d.obs K=d.val:=by
 have e2:(su.map (SuD.obs K))[i]? = (su.map SuD.val)[i]?:=by rw[c.su]
 rw[Ym,Ym,h]at e2
 exact Option.some.inj e2
end
end M
namespace M
open PySem PySem.Spec PyProof.Rows L2 SlX
def ZqP(K:YA)(C:YD):Bool :=
 decide (PySem.W.findIn K (.ref C) "__class__" = some (some (.builtin "object.__class__"))) && decide (PySem.W.specialIn K (.builtin "object.__class__") "__get__" = some (some (.builtin "getset_descriptor.__get__"))) &&
 decide (PySem.W.takesIn K (.builtin "object.__class__")=some true) && decide (PySem.W.mroIn K C (.type "object")=some true) && decide (PySem.W.kitOne K (.ref C) (.ref C)=some true)
theorem Zld{K:YA}{C:YD}(h:ZqP K C=true):SIsi K C∧PySem.W.kitOne K (.ref C) (.ref C)=some true:=by
 unfold ZqP at h
 simp only[Bool.and_eq_true,decide_eq_true_eq]at h
 exact⟨⟨h.1.1.1.1,h.1.1.1.2,h.1.1.2,h.1.2⟩,h.2⟩
end M
namespace M
open PySem PySem.Spec PyProof.Rows L2 L2H SlX
structure Ztr(P:YE)(w:YF)(K:YA)(mg:Str→Option YG)(base:Heap)(k:Nat)(x:Str)(sp:Sp):Prop where mk0 ::
 ex:∃ (f:YD) (fd:YC) (ps:List Str),Xl P w K mg base (L2N.CX P w) k f fd ps sp∧mg x=some (.ref f)∧PySem.W.keepIn K (.ref f)=true∧Binds K fd ps []
structure XTx(K:YA)(mg:Str→Option YG)(x:Str)(C:YD):Prop where mk0 ::
 ex:∃ (B newId i:String) (bmB:List YG),ExcBaseFacts B newId i bmB∧PySem.W.excIn K C bmB newId=true∧mg x=some (.ref C)∧PySem.W.keepIn K (.ref C)=true∧PySem.W.subIn K (.ref C) (.type "BaseException")=some true∧PySem.W.typeIn K (.ref C)=some (.type "type")
theorem XTx.mk{X:Cx}{x m:Str}{C:YD}{j:Nat}{p p2 pos:Pos}(c:XTx X.K X.mg x C)(hg:Gl X x)(hdb:(x == ("__debug__" : Str))=false:=by decide):L2N.PMk X (.Call (.Name x p) [.Constant (.str m) j p2] [] pos) (fun _ H Q=>Q (.ref C) none H):=by
 obtain⟨B,newId,i,bmB,h1,h2,h3,h4,h5,h6⟩:=c.ex
 exact L2N.pmk_own h1 h2 h3 h4 (raises_own h5 h6) hg hdb
end M
namespace PySem.W
open PySem PySem.Spec PySem.Calls PyProof.Rows
section
variable {P:YE} {w:YF} {B:Around} {F:YG→YH→Prop} {t:YH} {L:Frag} {y C:YD} {oy:Obj} {od:Option Obj}
end
end PySem.W
namespace M
open PySem PySem.Spec PyProof.Rows L2 L2H SlX
theorem Zkp.vl{K:YA}{C:YD}{cd:ClassData}(sa:PySem.W.findIn K (.ref C) "__setattr__" = some (some (.builtin "object.__setattr__"))) (hcl:PySem.W.clsIn K C=some cd) (hm:PySem.HandSPX.refsVE cd.mro=true) (hh:cd.hasDict=true):Zkp K C :=
 ⟨sa,fun X hx ha hq=>PySem.HandSPX.exc_osa X hx hcl hm hh ha hq,fun X hx hn hw hz ha hq=>PySem.OEX.osa_old X hx hn hw hz hcl hm hh ha hq⟩
def SuD.veB(K:YA)(d:SuD):Bool:=He.eqO (PySem.W.findIn K (.ref (d.C K)) "__setattr__") (some (some (.builtin "object.__setattr__"))) && ((PySem.W.clsIn K (d.C K)).any fun cd=>PySem.HandSPX.refsVE cd.mro && cd.hasDict)
theorem SuD.oexV{K:YA}{d:SuD}(c:d.veB K=true):Zkp K (d.C K):=by
 obtain⟨c1,c2⟩:=He.ba c
 cases q:PySem.W.clsIn K (d.C K)with
 | none=>rw[q]at c2; cases c2
 | some cd =>
   rw[q]at c2
   obtain⟨c3,c4⟩:=He.ba (show(PySem.HandSPX.refsVE cd.mro && cd.hasDict)=true from c2)
   exact Zkp.vl (He.eqO_ok c1) q c3 c4
def kitB(K:YA)(C D:YD):Bool:=decide (PySem.W.kitOne K (.ref C) (.ref D)=some true)
section
variable {r:PySem.W.OpenRow} {q:YE} {M n:Nat} {loose:List PySem.Str} {w:YF} {xs:List YD} {fa:List He.Fa} {fn:List He.DefD} {ts:List He.Tab} {su:List SuD} {pr:List PrD} {ex1 ex2:YA→Bool}
end
theorem Zkq{l:List Bool}(h:l.all id=true)(i:Nat){b:Bool}(e:l[i]? = some b):b=true:=List.all_eq_true.mp h b (Yj e)
def ZqQ(K:YA)(f:YD):Bool:=match K.lookup f with
 | some ⟨_,_,.func fd,_⟩=>decide (fd.defaults = .none)
 | _=>false
abbrev PP:YE:=PySem.Challenge.pw_modlink_k02_programs_as_sets
def ZfX:He.DefD:=⟨("is_integer",none), "is_integer", "is_integer",Y1 ZaH,Y0 ZaH,YU ZaH,[],[]⟩
def Zis:He.DefD:=⟨("is_name",none), "is_name", "is_name",Y1 Zb0,Y0 Zb0,YU Zb0,[],[]⟩
def Zgq:He.DefD:=⟨("blocks_of",none), "blocks_of", "blocks_of",Y1 Zbp,Y0 Zbp,YU Zbp,[],[]⟩
def Zg9:He.DefD:=⟨("names_of",none), "names_of", "names_of",Y1 ZbK,Y0 ZbK,YU ZbK,[],[]⟩
def Zdc:He.DefD:=⟨("expressions_of",none), "expressions_of", "expressions_of",Y1 ZW,Y0 ZW,YU ZW,[],[]⟩
def Zdu:He.DefD:=⟨("statements_in",none), "statements_in", "statements_in",Y1 Z8,Y0 Z8,YU Z8,[],[]⟩
def Zg_:He.DefD:=⟨("depth_of",none), "depth_of", "depth_of",Y1 ZbL,Y0 ZbL,YU ZbL,[],[]⟩
def Zb1:He.DefD:=⟨("is_valid_expression",none), "is_valid_expression", "is_valid_expression",Y1 Zu,Y0 Zu,YU Zu,[],[]⟩
def Zcc:He.DefD:=⟨("is_valid_statement",none), "is_valid_statement", "is_valid_statement",Y1 Zm,Y0 Zm,YU Zm,[],[]⟩
def Ze9:He.DefD:=⟨("first_fault",none), "first_fault", "first_fault",Y1 Zaq,Y0 Zaq,YU Zaq,[],[]⟩
def Zit:He.DefD:=⟨("_law_mix",none), "_law_mix", "_law_mix",Y1 Zcq,Y0 Zcq,YU Zcq,[],[]⟩
def Zha:He.DefD:=⟨("_law_next",none), "_law_next", "_law_next",Y1 ZbM,Y0 ZbM,YU ZbM,[],[]⟩
def Zgr:He.DefD:=⟨("_law_alike",none), "_law_alike", "_law_alike",Y1 ZaI,Y0 ZaI,YU ZaI,[],[]⟩
def Zhb:He.DefD:=⟨("_law_name",none), "_law_name", "_law_name",Y1 Zbr,Y0 Zbr,YU Zbr,[],[]⟩
def Zgs:He.DefD:=⟨("_law_names",none), "_law_names", "_law_names",Y1 Zbq,Y0 Zbq,YU Zbq,[],[]⟩
def Ze_:He.DefD:=⟨("_law_integer",none), "_law_integer", "_law_integer",Y1 Zar,Y0 Zar,YU Zar,[],[]⟩
def Zhc:He.DefD:=⟨("_law_expr",none), "_law_expr", "_law_expr",Y1 ZbN,Y0 ZbN,YU ZbN,[],[]⟩
def Zhd:He.DefD:=⟨("_law_load",none), "_law_load", "_law_load",Y1 ZbO,Y0 ZbO,YU ZbO,[],[]⟩
def Zdv:He.DefD:=⟨("_law_statement",none), "_law_statement", "_law_statement",Y1 Z9,Y0 Z9,YU Z9,[],[]⟩
def Zhe:He.DefD:=⟨("_law_rows",none), "_law_rows", "_law_rows",Y1 Zbs,Y0 Zbs,YU Zbs,[],[]⟩
def Zdd:He.DefD:=⟨("_law_first_rows",none), "_law_first_rows", "_law_first_rows",Y1 ZZ,Y0 ZZ,YU ZZ,[],[]⟩
def Zfa:He.DefD:=⟨("_law_program",none), "_law_program", "_law_program",Y1 Zas,Y0 Zas,YU Zas,[],[]⟩
def Zhf:He.DefD:=⟨("_law_walk",none), "_law_walk", "_law_walk",Y1 ZbP,Y0 ZbP,YU ZbP,[],[]⟩
def ZjX:He.DefD:=⟨("_law_is",none), "_law_is", "_law_is",Y1 Zcg,Y0 Zcg,YU Zcg,[],[]⟩
def ZfY:He.DefD:=⟨("_law_turned",none), "_law_turned", "_law_turned",Y1 ZaJ,Y0 ZaJ,YU ZaJ,[],[]⟩
def Zfb:He.DefD:=⟨("_law_unknown",none), "_law_unknown", "_law_unknown",Y1 Z4,Y0 Z4,YU Z4,[],[]⟩
def Zfc:He.DefD:=⟨("_law_missing",none), "_law_missing", "_law_missing",Y1 Z5,Y0 Z5,YU Z5,[],[]⟩
def ZpP:He.DefD:=⟨("law",none), "law", "law",Y1 Zir,Y0 Zir,YU Zir,[],[]⟩
def ZcA:He.DefD:=⟨("Program",some "__init__"), "__init__", "Program.__init__",Y1 ZB,Y0 ZB,YU ZB,[],[]⟩
def Zb2:He.DefD:=⟨("Program",some "__getitem__"), "__getitem__", "Program.__getitem__",Y1 Zh,Y0 Zh,YU Zh,[],[]⟩
def ZbG:He.DefD:=⟨("Program",some "__contains__"), "__contains__", "Program.__contains__",Y1 Zr,Y0 Zr,YU Zr,[],[]⟩
def ZcQ:He.DefD:=⟨("Program",some "__len__"), "__len__", "Program.__len__",Y1 ZN,Y0 ZN,YU ZN,[],[]⟩
def Zde:He.DefD:=⟨("Program",some "__eq__"), "__eq__", "Program.__eq__",Y1 ZX,Y0 ZX,YU ZX,[],[]⟩
def Zdf:He.DefD:=⟨("Program",some "__or__"), "__or__", "Program.__or__",Y1 ZY,Y0 ZY,YU ZY,[],[]⟩
def Zcr:He.DefD:=⟨("Program",some "all_names"), "all_names", "Program.all_names",Y1 ZG,Y0 ZG,YU ZG,[],[]⟩
def Zb3:He.DefD:=⟨("Program",some "with_module"), "with_module", "Program.with_module",Y1 Zv,Y0 Zv,YU Zv,[],[]⟩
def ZcR:He.DefD:=⟨("Program",some "without"), "without", "Program.without",Y1 Ze,Y0 Ze,YU Ze,[],[]⟩
def Zcd:He.DefD:=⟨("Program",some "statements"), "statements", "Program.statements",Y1 Zj,Y0 Zj,YU Zj,[],[]⟩
def Zbt:He.DefD:=⟨("Program",some "each_statement"), "each_statement", "Program.each_statement",Y1 Zd,Y0 Zd,YU Zd,[],[]⟩
def Zw:SuD:=⟨"UnknownModule",Zal, "UnknownModule.__init__", "ValueError", "ValueError.__new__", "ValueError.__init__",[.type "ValueError",.type "Exception",.type "BaseException",.type "object"],["module"]⟩
def fn:List He.DefD:=([ZfX,Zis,Zgq,Zg9,Zdc,Zdu,Zg_,Zb1,Zcc,Ze9,Zit,Zha,Zgr,Zhb,Zgs,Ze_,Zhc,Zhd,Zdv,Zhe,Zdd,Zfa,Zhf,ZjX,ZfY,Zfb,Zfc,ZpP,ZcA,Zb2]:List He.DefD)++([ZbG,ZcQ,Zde,Zdf,Zcr,Zb3,ZcR,Zcd,Zbt]:List He.DefD)
def fa:List He.Fa:=([.glo "is_integer",.glo "is_name",.glo "blocks_of",.glo "names_of",.glo "expressions_of",.glo "statements_in",.glo "depth_of",.glo "is_valid_expression",.glo "is_valid_statement",.glo "first_fault",.glo "_law_mix",.glo "_law_next",.glo "_law_alike",.glo "_law_name",.glo "_law_names",.glo "_law_integer",.glo "_law_expr",.glo "_law_load",.glo "_law_statement",.glo "_law_rows",.glo "_law_first_rows",.glo "_law_program",.glo "_law_walk",.glo "_law_is",.glo "_law_turned",.glo "_law_unknown",.glo "_law_missing",.glo "law",.free "isinstance",.free "int"]:List He.Fa)++([.free "bool",.free "str",.free "len",.free "max",.free "min",.free "range",.free "list",.free "tuple",.free "dict",.free "sorted",.free "enumerate",.free "super",.glo "Program",.glo "UnknownModule",.meth "Program" "__init__",.meth "Program" "__getitem__",.meth "Program" "__contains__",.meth "Program" "__len__",.meth "Program" "__eq__",.meth "Program" "__or__",.meth "Program" "all_names",.meth "Program" "with_module",.meth "Program" "without",.meth "Program" "statements",.meth "Program" "each_statement",.mkr "Program",.exm "UnknownModule" "UnknownModule" true,.int "MAX_LETTERS" 8,.int "MAX_MODULES" 8,.int "MAX_STATEMENTS" 60]:List He.Fa)++([.int "MAX_DEPTH" 3,.int "MAX_OPERATORS" 3,.int "TOO_LARGE" 1000000000000000000000000000000000000000000000000000000000000,.str "LETTERS" "abcdefghijklmnopqrstuvwxyz"]:List He.Fa)
def ts:List He.Tab:=[]
def su:List SuD:=[Zw]
def pr:List PrD:=[]
def exs(K:YA):List Bool:=[ZrQ K (He.ga K "Program"),
 Zlb K (He.ga K "Program") "own_names" 1,
 Zlb K (He.ga K "Program") "own_blocks" 0,
 SuD.fnB K PP.main.file Zw,
 SuD.clB K Zw,
 SuD.veB K Zw,
 xfB K (He.ga K "UnknownModule"),
 ZqQ K (SuD.f K Zw),
 PySem.W.fnIn K (He.ma K (He.ga K "Program") "__getitem__"),
 PySem.W.notFirst K (He.ga K "Program") (.ref (He.ga K "Program")),
 ZqP K (He.ga K "Program"),
 PySem.W.isFn K (.ref (He.ma K (He.ga K "Program") "__eq__")),
 PySem.W.selfFirst K (He.ga K "Program")]
def ex(K:YA):Bool:=(exs K).all id
theorem Zfx{K:YA}(h:ex K=true):(exs K).all id=true:=h
def nms:List PySem.Str:=(["_wall", "LinkError", "InvalidProgram", "UnknownModule", "LETTERS", "MAX_LETTERS", "MAX_MODULES", "MAX_STATEMENTS", "MAX_DEPTH", "MAX_OPERATORS", "TOO_LARGE", "is_integer", "is_name", "blocks_of", "names_of", "expressions_of", "statements_in", "depth_of", "is_valid_expression", "is_valid_statement", "first_fault", "Program", "_law_mix", "_law_next", "_law_alike", "_law_name", "_law_names", "_law_integer", "_law_expr", "_law_load"]:List PySem.Str)++(["_law_statement", "_law_rows", "_law_first_rows", "_law_program", "_law_walk", "_law_is", "_law_turned", "_law_unknown", "_law_missing"]:List PySem.Str)
abbrev R:PySem.W.OpenRow:=PySem.W.OpenLaw.row PySem.Challenge.rw_modlink_k02_programs_as_sets
abbrev hk:PySem.W.Hook:=ZpO 5 [PySem.cStatics] fa fn ts su pr ex
def ob(s:PySem.W.SharedT):AlC:=ZqO 5 [PySem.cStatics] fa fn ts su pr ex (HandSHeadRun.getT s)
theorem ZrS(s:PySem.W.SharedT):ob s=hk.obs s.abs:=ZnG (HandSHeadRun.getT_eq s)
def ZqR(w:YF):Prop:=HandSHeadRun.RunEq R (PySem.W.view R.prog [43]) hk ob 30000 nms w
theorem ZrT(w:YF):ZqR (w.withFollow "special-get-raises" false):=by intro os; kernel_rfl
theorem ZrU(w:YF):ZqR (w.withFollow "special-get-raises" true):=by intro os; kernel_rfl
theorem run(w:YF):ZqR w:=PySem.W.byRow2 "special-get-raises" (P:=ZqR) ZrT ZrU w
end M
namespace M
open PySem PyProof.Rows
def ZqS(F:Frame):Frame:=.ret (fun _=>.unsupported "") none false [] F.where_.1 F.where_.2 []
def stk:GenState→GenState
 | .suspended _ l c p fs _=>.suspended (fun _=>.unsupported "") l c p (fs.map ZqS) false
 | x=>x
def Slp:GenState→Prop
 | .suspended ..=>True
 | _=>False
theorem ZjY(x:GenState):(stk x).seen=x.seen:=by
 cases x with
 | suspended k l c p fs cl =>
   show(GenStatus.suspended,some ((c,p) :: (fs.map ZqS).map Frame.where_))=_
   rw[Yx]
   rfl
 | _=>rfl
theorem Ziu:∀ fs:List Frame,splitAtGen (fs.map ZqS)=none
 | []=>rfl
 | F :: fs=>by
   show(splitAtGen (fs.map ZqS)).map _=none
   rw[Ziu fs]
   rfl
theorem Ziv{a b:List Frame}(h1:splitAtGen a=none)(h2:splitAtGen b=none):splitAtGen (a++b)=none:=by
 induction a with
 | nil=>exact h2
 | cons F a ih =>
   cases F with
   | gen=>cases h1
   | ret =>
     have h1:(splitAtGen a).map _=none:=h1
     show(splitAtGen (a++b)).map _=none
     rw[ih (Option.map_eq_none_iff.mp h1)]
     rfl
theorem Zkr{F:Frame}{fs:List Frame}(h:splitAtGen (F :: fs)=none):splitAtGen fs=none:=by
 cases F with
 | gen=>cases h
 | ret =>
   have h:(splitAtGen fs).map _=none:=h
   exact Option.map_eq_none_iff.mp h
def ZnH:GenState→Prop
 | .suspended _ _ _ _ fs _=>splitAtGen fs=none
 | _=>True
theorem ZnI(x:GenState):ZnH (stk x):=by
 cases x with
 | suspended k l c p fs cl=>exact Ziu fs
 | _=>trivial
def ZnJ(gs:Array GenState):Prop:=∀ (i:Nat) (y:GenState),gs[i]? = some y→ZnH y
theorem ZnJ.set{gs:Array GenState}(h:ZnJ gs){i:Nat}{y:GenState}(hy:ZnH y):ZnJ (gs.setIfInBounds i y):=fun j z hz=>by
 rw[Array.getElem?_setIfInBounds]at hz
 split at hz
 ·split at hz
  ·cases hz; exact hy
  ·cases hz
 ·exact h j z hz
theorem ZnJ.push{gs:Array GenState}(h:ZnJ gs){y:GenState}(hy:ZnH y):ZnJ (gs.push y):=fun j z hz=>by
 rw[Array.getElem?_push]at hz
 split at hz
 ·cases hz; exact hy
 ·exact h j z hz
theorem Zhg{M:Model}{Γ : Ctx}{p:Pos}{t:Sem PySem.Fin}{fs:List Frame}{s s':YH}{e:End}(h:Runs M Γ p t fs s e s'):∀ w,t≠.unsupported w:=by
 induction h with
 | segRet _ _ ih _=>exact ih
 | segGen _ _ ih _=>exact ih
 | segSuspOut _ _ ih=>exact ih
 | segSuspGen _ _ _ _ ih _=>exact ih
 | _=>exact fun w z=>by cases z
section
variable {M:Model} {X:Nat→Option GenState}
def un(X:Nat→Option GenState)(t:YH):YH:={ t with gens:=t.gens.mapIdx fun i y=>(X i).getD y }
theorem Zle{t:YH}:(un X t).gens.size=t.gens.size:=Array.size_mapIdx
theorem Zlf{t:YH}{i:Nat}:(un X t).gens[i]? = (t.gens[i]?).map fun y=>(X i).getD y:=Array.getElem?_mapIdx
theorem ZnK{hp:Heap}{a b:Array GenState}{d:Drawn}{tk:Nat}{o:OsState}(h:a=b):(⟨hp,a,d,tk,o⟩:YH)=⟨hp,b,d,tk,o⟩:=by rw[h]
def Twn(X:Nat→Option GenState)(t:YH):Prop:=ZnJ t.gens∧∀ i x,X i=some x→Slp x∧t.gens[i]? = some (stk x)
theorem Twn.off{t:YH}(h:Twn X t){i:Nat}(hi:t.gens.size ≤ i):X i=none:=by
 cases e:X i with
 | none=>rfl
 | some x =>
   have:=(Array.getElem?_eq_some_iff.mp (h.2 i x e).2).1
   omega
theorem Zlg{t:YH}(h:Twn X t)(y:GenState):un X { t with gens:=t.gens.push y } = { un X t with gens:=(un X t).gens.push y }:=by
 refine ZnK ?_
 show(t.gens.push y).mapIdx _=(t.gens.mapIdx _).push y
 apply Array.ext_getElem?
 intro i
 simp only[Array.getElem?_push,Array.getElem?_mapIdx,Array.size_mapIdx]
 by_cases e:i=t.gens.size
 ·rw[if_pos e,if_pos e,h.off (by omega)]
  rfl
 ·rw[if_neg e,if_neg e]
theorem Zb4{t:YH}{i:Nat}(hi:X i=none)(y:GenState):un X (t.setGen i y)=(un X t).setGen i y:=by
 refine ZnK ?_
 show(t.gens.setIfInBounds i y).mapIdx _=(t.gens.mapIdx _).setIfInBounds i y
 apply Array.ext_getElem?
 intro j
 simp only[Array.getElem?_setIfInBounds,Array.size_mapIdx,Array.getElem?_mapIdx]
 by_cases e1:i=j
 ·subst e1
  rw[if_pos rfl,if_pos rfl,hi]
  split <;> rfl
 ·rw[if_neg e1,if_neg e1]
theorem Twn.set{t:YH}(h:Twn X t){i:Nat}(hi:X i=none){y:GenState}(hy:ZnH y):Twn X (t.setGen i y):=by
 refine⟨h.1.set hy,fun j x hx=>⟨(h.2 j x hx).1,?_⟩⟩
 have ne:i≠j:=fun z=>by rw[z,hx]at hi; cases hi
 show(t.gens.setIfInBounds i y)[j]? = _
 rw[Array.getElem?_setIfInBounds_ne ne]
 exact(h.2 j x hx).2
theorem Twn.push{t:YH}(h:Twn X t){y:GenState}(hy:ZnH y):Twn X { t with gens:=t.gens.push y }:=by
 refine⟨h.1.push hy,fun j x hx=>⟨(h.2 j x hx).1,?_⟩⟩
 have lt:=(Array.getElem?_eq_some_iff.mp (h.2 j x hx).2).1
 show(t.gens.push y)[j]? = _
 rw[Array.getElem?_push,if_neg (by omega)]
 exact(h.2 j x hx).2
theorem Twn.awake{t:YH}(h:Twn X t){i:Nat}{y:GenState}(hy:t.gens[i]? = some y)(ns:¬ Slp y):X i=none:=by
 cases e:X i with
 | none=>rfl
 | some x =>
   obtain⟨h1,h2⟩:=h.2 i x e
   rw[hy]at h2
   cases h2
   cases x <;> first | exact h1.elim | exact absurd trivial ns
theorem Twn.same{t:YH}{i:Nat}{y:GenState}(hi:X i=none)(hy:t.gens[i]? = some y):(un X t).gens[i]? = some y:=by
 rw[Zlf,hy,hi]
 rfl
theorem ZqT{e:End}(h:∀ v g l k c p fs,e = .susp v g l k c p fs→splitAtGen fs=none):ZnH e.genState:=by
 cases e with
 | ret r=>trivial
 | susp v g l k c p fs=>exact h _ _ _ _ _ _ _ rfl
def ZsJ(e:End):Prop:=∀ v g l k c p fs,e = .susp v g l k c p fs→splitAtGen fs=none
theorem ZjZ{r:Result}:ZsJ (.ret r):=fun _ _ _ _ _ _ _ z=>by cases z
theorem Zgt{Γ : Ctx}{q:Pos}{tt:Sem PySem.Fin}{gs:List Frame}{t t':YH}{e:End}(h:Runs M Γ q tt gs t e t') :
  splitAtGen gs=none→Twn X t→Runs M Γ q tt gs (un X t) e (un X t')∧Twn X t'∧ZsJ e:=by
 induction h with
 | done=>exact fun _ T=>⟨.done,T,ZjZ⟩
 | raise=>exact fun _ T=>⟨.raise,T,ZjZ⟩
 | again hq _ ih=>exact fun g T=>⟨.again hq (ih g T).1,(ih g T).2⟩
 | rule _ ih=>exact fun g T=>⟨.rule (ih g T).1,(ih g T).2⟩
 | «at» _ ih=>exact fun g T=>⟨.at (ih g T).1,(ih g T).2⟩
 | load ho _ ih=>exact fun g T=>⟨.load ho (ih g T).1,(ih g T).2⟩
 | update hs _ ih=>exact fun g T=>⟨.update hs (ih g T).1,(ih g T).2⟩
 | loadIfAlive _ ih=>exact fun g T=>⟨.loadIfAlive (ih g T).1,(ih g T).2⟩
 | point _ ih=>exact fun g T=>⟨.point (ih g T).1,(ih g T).2⟩
 | alloc _ ih=>exact fun g T=>⟨.alloc (ih g T).1,(ih g T).2⟩
 | fresh _ ih=>exact fun g T=>⟨.fresh (ih g T).1,(ih g T).2⟩
 | ask _ ih=>exact fun g T=>⟨.ask (ih g T).1,(ih g T).2⟩
 | choose hn _ ih=>exact fun g T=>⟨.choose hn (ih g T).1,(ih g T).2⟩
 | os _ ih=>exact fun g T=>⟨.os (ih g T).1,(ih g T).2⟩
 | handled _ ih=>exact fun g T=>⟨.handled (ih g T).1,(ih g T).2⟩
 | @genState i st Γ p k s e s' hg _ ih =>
   intro g T
   refine⟨?_,(ih g T).2⟩
   cases hx:X i with
   | none=>exact .genState (Twn.same hx hg) (ih g T).1
   | some x =>
     obtain⟨h1,h2⟩:=T.2 i x hx
     rw[h2]at hg
     cases hg
     have:=(ih g T).1
     rw[ZjY]at this
     exact .genState (by rw[Zlf,h2,hx]; rfl) this
 | stack _ ih=>exact fun g T=>⟨.stack (ih g T).1,(ih g T).2⟩
 | thread _ ih=>exact fun g T=>⟨.thread (ih g T).1,(ih g T).2⟩
 | newGen _ ih =>
   intro g T
   have q:=ih g (Twn.push T trivial)
   refine⟨.newGen ?_,q.2⟩
   rw[Zle]
   rw[Zlg T]at q
   exact q.1
 | call _ _ ih1 ih2=>exact fun g T=>⟨.call (ih1 rfl T).1 (ih2 g (ih1 rfl T).2.1).1,(ih2 g (ih1 rfl T).2.1).2⟩
 | callSusp _ ih =>
   intro g T
   refine⟨.callSusp (ih rfl T).1,(ih rfl T).2.1,fun _ _ _ _ _ _ _ z=>?_⟩
   cases z
   exact Ziv ((ih rfl T).2.2 _ _ _ _ _ _ _ rfl) rfl
 | yield=>exact fun _ T=>⟨.yield,T,fun _ _ _ _ _ _ _ z=>by cases z; rfl⟩
 | resumeFresh hg _ hq _ ih1 ih2 =>
   intro g T
   have ne:=Twn.awake T hg (fun z=>z)
   have q1:=ih1 rfl (Twn.set T ne trivial)
   have q2:=ih2 g (Twn.set q1.2.1 ne (ZqT q1.2.2))
   rw[Zb4 ne]at q1 q2
   exact⟨.resumeFresh (Twn.same ne hg) q1.1 hq q2.1,q2.2⟩
 | @resumeSuspended Γ p i r l k s k0 l0 c0 p0 fs0 cl0 e1 s1 e s' hg r1 hq _ ih1 ih2 =>
   intro g T
   cases hx:X i with
   | some x =>
     exfalso
     obtain⟨h1,h2⟩:=T.2 i x hx
     rw[h2]at hg
     cases x with
     | suspended k l c p fs cl =>
       cases hg
       exact Zhg r1 _ rfl
     | _=>exact h1.elim
   | none =>
     have q1:=ih1 (T.1 i _ hg) (Twn.set T hx trivial)
     have q2:=ih2 g (Twn.set q1.2.1 hx (ZqT q1.2.2))
     rw[Zb4 hx]at q1 q2
     exact⟨.resumeSuspended (Twn.same hx hg) q1.1 hq q2.1,q2.2⟩
 | resumeJustStarted hg hv _ ih =>
   intro g T
   exact⟨.resumeJustStarted (Twn.same (Twn.awake T hg (fun z=>z)) hg) hv (ih g T).1,(ih g T).2⟩
 | resumeThrowFresh hg _ ih =>
   intro g T
   have ne:=Twn.awake T hg (fun z=>z)
   have q:=ih g (Twn.set T ne trivial)
   rw[Zb4 ne]at q
   exact⟨.resumeThrowFresh (Twn.same ne hg) q.1,q.2⟩
 | resumeRunning hg _ ih =>
   intro g T
   exact⟨.resumeRunning (Twn.same (Twn.awake T hg (fun z=>z)) hg) (ih g T).1,(ih g T).2⟩
 | resumeFinished hg _ ih =>
   intro g T
   exact⟨.resumeFinished (Twn.same (Twn.awake T hg (fun z=>z)) hg) (ih g T).1,(ih g T).2⟩
 | segRet _ _ ih1 ih2 =>
   intro g T
   have q1:=ih1 rfl T
   have q2:=ih2 (Zkr g) q1.2.1
   exact⟨.segRet q1.1 q2.1,q2.2⟩
 | segGen _ _ _ _=>exact fun g=>by cases g
 | segSuspOut hs _ ih =>
   intro g T
   refine⟨.segSuspOut hs (ih rfl T).1,(ih rfl T).2.1,fun _ _ _ _ _ _ _ z=>?_⟩
   cases z
   exact Ziv ((ih rfl T).2.2 _ _ _ _ _ _ _ rfl) hs
 | segSuspGen hs _ _ _ _ _=>exact fun g=>by rw[g]at hs; cases hs
theorem Zks{Γ : Ctx}{p:Pos}{g:Nat}{r:Resume}{t t':YH}{res:GenResult}(h:Wakes M Γ p g r t res t')(T:Twn X t):Wakes M Γ p g r (un X t) res (un X t')∧Twn X t':=by
 unfold Wakes at h ⊢
 cases hg:t.gens[g]? with
 | none=>rw[hg]at h; exact h.elim
 | some st =>
   rw[hg]at h
   cases hx:X g with
   | some x =>
     obtain⟨h1,h2⟩:=T.2 g x hx
     rw[hg]at h2
     cases h2
     cases x with
     | suspended k l c p fs cl =>
       obtain⟨e,s1,r1,_⟩:=h
       exact(Zhg r1 _ rfl).elim
     | _=>exact h1.elim
   | none =>
     rw[Twn.same hx hg]
     cases st with
     | fresh c =>
       cases r with
       | send v =>
         cases v with
         | none =>
           obtain⟨e,s1,r1,hq,rfl,rfl⟩:=h
           have q1:=Zgt r1 rfl (Twn.set T hx trivial)
           rw[Zb4 hx]at q1
           exact⟨⟨e,_,q1.1,hq,rfl,Zb4 hx _⟩,Twn.set q1.2.1 hx (ZqT q1.2.2)⟩
         | _=>obtain⟨rfl,rfl⟩:=h; exact⟨⟨rfl,rfl⟩,T⟩
       | throw x =>
         obtain⟨rfl,rfl⟩:=h
         exact⟨⟨rfl,Zb4 hx _⟩,Twn.set T hx trivial⟩
     | suspended k l c p fs cl =>
       obtain⟨e,s1,r1,hq,rfl,rfl⟩:=h
       have q1:=Zgt r1 (T.1 g _ hg) (Twn.set T hx trivial)
       rw[Zb4 hx]at q1
       exact⟨⟨e,_,q1.1,hq,rfl,Zb4 hx _⟩,Twn.set q1.2.1 hx (ZqT q1.2.2)⟩
     | running=>obtain⟨rfl,rfl⟩:=h; exact⟨⟨rfl,rfl⟩,T⟩
     | finished=>obtain⟨rfl,rfl⟩:=h; exact⟨⟨rfl,rfl⟩,T⟩
theorem ZnL{α : Type}{Γ : Ctx}(m:Sem α):∀ (Q : α→Pos→YH→Prop) (E:YG→Pos→YH→Prop) (p:Pos) (t:YH),Twn X t→Sem.wp M Γ m Q E p t →
  Sem.wp M Γ m (fun a p' s'=>∃ t',s'=un X t'∧Twn X t'∧Q a p' t') (fun e p' s'=>∃ t',s'=un X t'∧Twn X t'∧E e p' t') p (un X t):=by
 induction m with
 | pure a=>exact fun Q E p t T h=>⟨t,rfl,T,h⟩
 | raise e=>exact fun Q E p t T h=>⟨t,rfl,T,h⟩
 | unsupported _=>exact fun Q E p t T h=>h
 | finish _=>exact fun Q E p t T h=>h
 | rule _ k ih=>exact fun Q E p t T h=>ih () Q E p t T h
 | «at» p' k ih=>exact fun Q E p t T h=>ih () Q E p' t T h
 | load a _ k ih=>exact fun Q E p t T ⟨o,ho,h⟩=>⟨o,ho,ih o Q E p t T h⟩
 | update a _ f k ih=>exact fun Q E p t T h=>⟨h.1,ih () Q E p { t with heap:=t.heap.update a f } T h.2⟩
 | loadIfAlive a k ih=>exact fun Q E p t T h=>ih _ Q E p t T h
 | point _ k ih=>exact fun Q E p t T h=>ih () Q E p t T h
 | register _ _=>exact fun Q E p t T h=>h
 | alloc o k ih=>exact fun Q E p t T h=>ih _ Q E p { t with heap:=t.heap.push o } T h
 | fresh k ih=>exact fun Q E p t T h=>ih _ Q E p { t with toks:=t.toks + 1 } T h
 | ask k ih=>exact fun Q E p t T h=>ih _ Q E p t T h
 | choose src m k ih=>exact fun Q E p t T h=>⟨h.1,ih _ Q E p { t with drawn:=t.drawn.bump src } T h.2⟩
 | os q _ k ih=>exact fun Q E p t T h=>ih _ Q E p { t with os:=(Os.step t.os q).1 } T h
 | call c hd _ _ k ih =>
   intro Q E p t T ⟨r,t1,hr,h⟩
   have q1:=Zgt hr rfl T
   exact⟨r,_,q1.1,ih r Q E p t1 q1.2.1 h⟩
 | handled own k ih=>exact fun Q E p t T h=>ih _ Q E p t T h
 | genState g k ih =>
   intro Q E p t T ⟨st,hs,h⟩
   cases hx:X g with
   | none=>exact⟨st,Twn.same hx hs,ih _ Q E p t T h⟩
   | some x =>
     obtain⟨h1,h2⟩:=T.2 g x hx
     rw[h2]at hs
     cases hs
     rw[ZjY]at h
     exact⟨x,by rw[Zlf,h2,hx]; rfl,ih _ Q E p t T h⟩
 | newGen c k ih =>
   intro Q E p t T h
   have:=ih _ Q E p _ (Twn.push T (y:=.fresh c) trivial) h
   rw[Zlg T]at this
   rw[Sem.wp,Zle]
   exact this
 | resume g r _ k ih =>
   intro Q E p t T ⟨res,t1,hw,h⟩
   have q:=Zks hw T
   exact⟨res,_,q.1,ih res Q E p t1 q.2 h⟩
 | yield _ _ _ _=>exact fun Q E p t T h=>h
 | stack k ih=>exact fun Q E p t T h=>ih _ Q E p t T h
 | fork _ _=>exact fun Q E p t T h=>h
 | thread k ih=>exact fun Q E p t T h=>ih _ Q E p t T h
 | await _ _ _ _ _=>exact fun Q E p t T h=>h
def ZgV(s:YH):Nat→Option GenState:=fun i=>match s.gens[i]? with
 | some (.suspended k l c p fs cl)=>some (.suspended k l c p fs cl)
 | _=>none
def psn(s:YH):YH:={ s with gens:=s.gens.map stk }
theorem ZhF{s:YH}{i:Nat}{x:GenState}(h:ZgV s i=some x):s.gens[i]? = some x∧Slp x:=by
 unfold ZgV at h
 split at h
 ·cases h; exact⟨by assumption,trivial⟩
 ·cases h
theorem ZpQ{s:YH}{i:Nat}{x:GenState}(h:s.gens[i]? = some x)(hs:Slp x):ZgV s i=some x:=by
 unfold ZgV
 rw[h]
 cases x <;> first | rfl | exact hs.elim
theorem ZnM{s:YH}{i:Nat}{x:GenState}(h:s.gens[i]? = some x)(hs:ZgV s i=none):stk x=x:=by
 unfold ZgV at hs
 rw[h]at hs
 cases x <;> first | rfl | cases hs
theorem ZnN(s:YH):Twn (ZgV s) (psn s):=by
 refine⟨fun i y hy=>?_,fun i x hx=>?_⟩
 ·have hy:(s.gens.map stk)[i]? = some y:=hy
  rw[Array.getElem?_map,Option.map_eq_some_iff]at hy
  obtain⟨z,_,rfl⟩:=hy
  exact ZnI z
 ·obtain⟨h1,h2⟩:=ZhF hx
  refine⟨h2,?_⟩
  show(s.gens.map stk)[i]? = _
  rw[Array.getElem?_map,h1]
  rfl
theorem ZpR(s:YH):un (ZgV s) (psn s)=s:=by
 obtain⟨hp,gs,d,tk,o⟩:=s
 refine ZnK ?_
 apply Array.ext_getElem?
 intro i
 rw[Array.getElem?_mapIdx]
 show((gs.map stk)[i]?).map _=_
 rw[Array.getElem?_map]
 cases h:gs[i]? with
 | none=>rfl
 | some x =>
   show some ((ZgV ⟨hp,gs,d,tk,o⟩ i).getD (stk x))=some x
   cases hx:ZgV ⟨hp,gs,d,tk,o⟩ i with
   | none =>
     show some (stk x)=some x
     rw[ZnM h hx]
   | some y =>
     obtain⟨h1,_⟩:=ZhF hx
     have h1:gs[i]? = some y:=h1
     rw[h]at h1
     exact h1.symm
theorem Zml{s:YH}(h:AllBare s.gens):AllBare (psn s).gens:=fun y hy=>by
 obtain⟨x,hx,rfl⟩:=Array.mem_map.mp hy
 have:=h x hx
 cases x <;> first | rfl | exact this
theorem ZnO{s t:YH}(hs:AllBare s.gens)(h:AllBare t.gens):AllBare (un (ZgV s) t).gens:=fun y hy=>by
 obtain⟨i,hi⟩:=Array.mem_iff_getElem?.mp hy
 rw[Zlf,Option.map_eq_some_iff]at hi
 obtain⟨z,hz,rfl⟩:=hi
 cases hx:ZgV s i with
 | none=>exact h z (Array.mem_of_getElem? hz)
 | some x=>exact hs x (Array.mem_of_getElem? (ZhF hx).1)
theorem Zlh{α : Type}{A:Around}{m:Sem α}{Q : α→YH→Prop}{E:YG→YH→Prop}{s:YH}(h:wpAny M A m Q E (psn s)) :
  wpAny M A m (fun a s'=>(∀ i x,ZgV s i=some x→s'.gens[i]? = some x)∧∃ t,s'=un (ZgV s) t∧Q a t) (fun e s'=>(∀ i x,ZgV s i=some x→s'.gens[i]? = some x)∧∃ t,s'=un (ZgV s) t∧E e t) s:=fun Γ p hΓ=>by
 have:=ZnL (X:=ZgV s) m _ _ p (psn s) (ZnN s) (h Γ p hΓ)
 rw[ZpR]at this
 have k:∀ {t:YH},Twn (ZgV s) t→∀ i x,ZgV s i=some x→(un (ZgV s) t).gens[i]? = some x:=fun {t} T i x hx=>by
  rw[Zlf,(T.2 i x hx).2,hx]
  rfl
 exact Sem.wp_mono M Γ m (fun a p' s' ⟨t,e,T,q⟩=>by subst e; exact⟨k T,t,rfl,q⟩) (fun a p' s' ⟨t,e,T,q⟩=>by subst e; exact⟨k T,t,rfl,q⟩) p s this
end
end M
namespace M
open PySem PyProof.Rows L2 GenW
def SgX(M:Model)(A:Around)(c:Code)(t:Sem PySem.Fin)(fs:List Frame)(s:YH)(F:End→YH→Prop):Prop :=
 ∀ Γ p,Γ.code=c→Γ.Woken A→∃ e s',Runs M Γ p t fs s e s'∧e.quiet=true∧F e s'
section
variable {M:Model} {A:Around} {c:Code} {fs:List Frame} {s:YH} {F:End→YH→Prop}
theorem ZhG{α : Type}{m:Sem α}{K : α→Sem PySem.Fin}{J:YG→Sem PySem.Fin}{gd lv}
  (h:wpAny M (A.over c fs) m (fun a s'=>SgX M A c (K a) fs s' F) (fun x s'=>SgX M A c (J x) fs s' F) s):SgX M A c (m.wrap K J gd lv) fs s F:=by
 rintro Γ p rfl hΓ
 obtain⟨e,s',h1,h2,h3⟩:=runs_wrap_of_wp (Φ:=fun e s'=>e.quiet=true∧F e s') K J gd lv m (h (Γ.over fs) p (hΓ.over fs)) (fun a p' s' h'=>h' Γ p' rfl hΓ) (fun x p' s' h'=>h' Γ p' rfl hΓ)
 exact⟨e,s',h1,h2,h3⟩
theorem Zch{α β : Type}{m:Sem α}{f : α→Sem β}{K : β→Sem PySem.Fin}{J:YG→Sem PySem.Fin}{gd lv}
  (h:wpAny M (A.over c fs) m (fun a s'=>SgX M A c ((f a).wrap K J gd lv) fs s' F) (fun x s'=>SgX M A c (J x) fs s' F) s):SgX M A c ((m >>= f).wrap K J gd lv) fs s F:=by
 rw[Sem.bind_eq_wrap',Sem.wrap_wrap]
 exact ZhG h
theorem ZpS{p':Pos}{k:Unit→Sem PySem.Fin}(h:SgX M A c (k ()) fs s F):SgX M A c (.at p' k) fs s F :=
 ZhG (m:=standAt p') (K:=k) (J:=.raise) (gd:=id) (lv:=id) (wpAny_standAt h)
theorem Zmm{l:List YG}{k:Unit→Sem PySem.Fin}(h:SgX M A c (k ()) fs s F):SgX M A c (.point l k) fs s F :=
 ZhG (m:=point) (K:=k) (J:=.raise) (gd:=id) (lv:=fun _=>l) (wpAny_point h)
theorem ZnP{c':Code}{h g l}{k:Result→Sem PySem.Fin}(hc:∀ p,SgX M A c' (M.den c') (.ret k h g l c p [] :: fs) s F):SgX M A c (.call c' h g l k) fs s F:=by
 rintro Γ p rfl hΓ
 obtain⟨e,s',hr,he⟩:=hc p (Γ.goto c') p rfl (hΓ.goto c')
 exact⟨e,s',runs_call_seg hr,he⟩
theorem Zli{k h g l c₁ p₁ kp}(r:Result)(hk:SgX M A c₁ (k r) fs s F):SgX M A c (leafOf r) (.ret k h g l c₁ p₁ kp :: fs) s F:=by
 rintro Γ p rfl hΓ
 obtain⟨e,s',hr,he⟩:=hk (Γ.goto c₁) p₁ rfl (hΓ.goto c₁)
 exact⟨e,s',Runs.pop r hr,he⟩
theorem ZhH{c':Code}(hq:c'.quiet=true)(hc:SgX M A c' (M.den c') fs s F):SgX M A c (.pure (.again c')) fs s F:=by
 rintro Γ p rfl hΓ
 obtain⟨e,s',hr,he⟩:=hc (Γ.goto c') p rfl (hΓ.goto c')
 exact⟨e,s',Runs.head (c₁:=c') (fun _ _ x=>.again hq x) hr,he⟩
theorem ZpT(r:Result)(h:F (.ret r) s):SgX M A c (leafOf r) [] s F:=by
 rintro Γ p rfl _
 exact⟨.ret r,s,Runs.leaf r,rfl,h⟩
theorem Zmn{v g l}{k:Resume→Sem PySem.Fin}(hfs:splitAtGen fs=none)(hg:g=false)(hfg:fs.any Frame.guarded=false)(h:∀ p,F (.susp v g l k c p fs) s):SgX M A c (.yield v g l k) fs s F:=by
 rintro Γ p rfl _
 exact⟨_,s,Runs.yield' fs hfs,by simp[End.quiet,hg,hfg],h p⟩
def GoX(M:Model)(A:Around)(s:YH)(F:End→YH→Prop):GenState→Prop
 | .fresh c=>SgX M A c (M.den c) [] s F
 | .suspended k _ c _ fs _=>SgX M A c (k (.send .none)) fs s F
 | _=>False
theorem ZhI{E:YG→YH→Prop}{g:Nat}{gs:GenState}{l:List YG}{α : Type}{k:GenResult→Sem α}{Q : α→YH→Prop}(hg:s.gens[g]? = some gs)(hgo:GoX M A (s.setGen g .running) F gs)
  (hF:∀ e s₁,e.genState.bare=true→s.gens.size ≤ s₁.gens.size→F e s₁→wpAny M A (k e.result) Q E (s₁.setGen g e.genState)):wpAny M A (.resume g (.send .none) l k) Q E s:=by
 intro Γ p hΓ
 rw[Sem.wp_resume]
 have hB:∀ c,(Γ.wake c p).Woken A:=fun c=>hΓ.wake c p
 cases gs with
 | fresh c =>
   obtain⟨e,s1,hr,hq,hf⟩:=hgo (Γ.wake c p) p rfl (hB c)
   exact⟨_,_,by unfold Wakes; rw[hg]; exact⟨e,s1,hr,hq,rfl,rfl⟩,hF e s1 (End.bare_of_quiet hq) (by have:=runs_gsz hr; rw[setGen_size]at this; exact this) hf Γ p hΓ⟩
 | suspended k₀ l₀ c₀ p₀ fs₀ cl =>
   obtain⟨e,s1,hr,hq,hf⟩:=hgo (Γ.wake c₀ p) p₀ rfl (hB c₀)
   exact⟨_,_,by unfold Wakes; rw[hg]; exact⟨e,s1,hr,hq,rfl,rfl⟩,hF e s1 (End.bare_of_quiet hq) (by have:=runs_gsz hr; rw[setGen_size]at this; exact this) hf Γ p hΓ⟩
 | running=>exact hgo.elim
 | finished=>exact hgo.elim
end
section
variable {P:YE} {w:YF} {A:Around} {E:YG→YH→Prop} {s:YH} {F:End→YH→Prop}
theorem Ziw{a:YD}{g:Nat}{gs:GenState}{Q:Option YG→YH→Prop}(hh:A.handled=none)(hl:s.heap.NoLimit)(hroom:A.depth < recursionLimit)(hg:s.heap.IsGen a g)(hgs:s.gens[g]? = some gs)
  (hgo:GoX (model P w) A.in1 (s.setGen g .running) F gs) (hend:∀ r s₁,F (.ret r) s₁→r = .ok (.ret .none)∧∀ h',(∀ b o,s₁.heap.get? b=some o→h'.get? b=some o)→Q none { s₁.setGen g .finished with heap:=h' })
  (hy:∀ v b l k c p fs s₁,(End.susp v b l k c p fs).genState.bare=true→s.gens.size ≤ s₁.gens.size→F (.susp v b l k c p fs) s₁→Q (some v) (s₁.setGen g (End.susp v b l k c p fs).genState)):wpAny (model P w) A (pyNext (.ref a)) Q E s:=by
 unfold pyNext
 refine YB (wpAny_attempt (wpAny_callSpecial?_slot (name:=YN "__next__") hg.typeIs slot_gen_next
  (wpAny_call_entry slot_gen_next hg.typeIs entry_gen_next ?_ (args_gen_next _))))
 show wpAny _ A.in1 (Builtin.Generator.genWake (.ref a) (.send .none)) _ _ s
 unfold Builtin.Generator.genWake
 refine YB (wpAny_holding (wpAny_genNumber hg (YB (wpAny_genState hgs ?_))))
 cases gs with
 | running=>exact hgo.elim
 | finished=>exact hgo.elim
 | _ =>
   refine YB (wpAny_roomToWake hl hroom ?_)
   show wpAny _ A.in1 (.resume g (.send .none) [] _) _ _ s
   refine ZhI hgs hgo (fun e s₁ hb hz hf=>?_)
   cases e with
   | ret x =>
     obtain⟨rfl,hp⟩:=hend x s₁ hf
     show wpAny _ A.in1 (newExc (.type "StopIteration") [] >>= _) _ _ _
     refine YB ?_
     simp only[newExc,newTuple]
     refine YB (wpAny_newObj_type ?_ (by size_fits))
     refine YB (m:=firstArgMember _ _) (wpAny_of_eq (a:=Value.none) (by first | rfl | (simp only[firstArgMember]; rfl)) ?_)
     refine wpAny_newObj_type ?_ (by size_fits)
     simp only[raiseNew]
     refine YB (YB (wpAny_handled ?_))
     first | rw[show A.in1.handled=none from hh] | rw[hh]
     refine wpAny_throw ?_
     refine YB (wpAny_isInstance (T := "StopIteration") (b:=true) ⟨_,YM _ rfl,rfl⟩ isSubtype_stop ?_)
     exact YJ (hp _ fun b o hb=>YL _ (YL _ hb))
   | susp v g₀ l₀ k₀ c₀ p₀ fs₀=>exact YJ ⟨v,rfl,YJ (hy v g₀ l₀ k₀ c₀ p₀ fs₀ s₁ hb hz hf)⟩
theorem Zhh{target:Expr}{it:YG}{body:List YI}{env:Env}{fs:List Frame}
  (h:wpAny (model P w) (A.over (.forLoop target it body [] env) fs) (pyNext it) (fun r s₁=>match r with
   | none=>SgX (model P w) A (.block [] env) (leafOf (.ok .next)) fs s₁ F
   | some v=>wpAny (model P w) (A.over (.forLoop target it body [] env) fs) (letOwnedTupleGo target it v) (fun _ s₁'=>wpAny (model P w) (A.over (.forLoop target it body [] env) fs) (assign target env v) (fun _ s₂ =>
     SgX (model P w) A (.forLoop target it body [] env) ((execs body env).wrap (fun f=>match f with
      | .next | .cont=>.pure (.again (.forLoop target it body [] env))
      | .brk=>.pure (.done .next)
      | .ret v=>.pure (.done (.ret v))) (fun e=>(do noteFrame e env; theTreesLotGoes e:Sem Unit).wrap (fun _=>.raise e) .raise id id) id id) fs s₂ F) (fun _ _=>False) s₁') (fun _ _=>False) s₁) (fun _ _=>False) s) :
  SgX (model P w) A (.forLoop target it body [] env) ((model P w).den (.forLoop target it body [] env)) fs s F:=by
 show SgX _ A _ ((forTurn target it body [] env).onRaise (fun x=>do noteFrame x env; theTreesLotGoes x)) fs s F
 unfold forTurn
 rw[Sem.onRaise_eq_wrap]
 refine Zch (wpAny_standAt ?_)
 refine Zch (wpAny_onRaise (wpAny_mono h (fun r s1 h1=>?_) fun _ _ z=>z.elim))
 cases r with
 | none =>
   refine ZhH rfl ?_
   show SgX _ A _ (do return PySem.Fin.done (← (execs [] env).onRaise (fun x=>do noteFrame x env; theTreesLotGoes x))) fs s1 F
   exact h1
 | some v =>
   refine Zch (wpAny_mono h1 (fun _ s2 h2=>?_) fun _ _ z=>z.elim)
   refine Zch (wpAny_mono h2 (fun _ s3 h3=>?_) fun _ _ z=>z.elim)
   rw[Sem.bind_eq_wrap',Sem.wrap_wrap]
   rw[Sem.wrap_congr (execs body env) _ _ (K':=fun f=>match f with
       | .next | .cont=>.pure (.again (.forLoop target it body [] env))
       | .brk=>.pure (.done .next)
       | .ret v=>.pure (.done (.ret v))) (H':=(fun e=>(do noteFrame e env; theTreesLotGoes e:Sem Unit).wrap (fun _=>.raise e) .raise id id))
     (fun f=>by cases f <;> rfl)
     (fun e=>by first | exact Sem.bind_eq_wrap _ _ | (show(do noteFrame e env; theTreesLotGoes e:Sem Unit).bind (fun _=>.raise e)=_; rw[Sem.bind_eq_wrap]))]
   exact h3
theorem Zm_{c:Code}{target iter:Expr}{body:List YI}{env:Env}{pos:Pos}{fs:List Frame}{K:Flow→Sem PySem.Fin}{J:YG→Sem PySem.Fin}{gd:Bool→Bool}{lv:List YG→List YG}
  (h:wpAny (model P w) (A.over c fs) (eval iter env) (fun x s₁=>wpAny (model P w) (A.over c fs) (pyIter x) (fun it s₂=>∀ p,
   SgX (model P w) A (.forLoop target it body [] env) ((model P w).den (.forLoop target it body [] env))
    (.ret (fun r=>((match r with | .ok f=>(.pure f:Sem Flow) | .error e=>.raise e).onRaise (cameBack env)).wrap K J gd lv) none (gd false) (lv []) c p [] :: fs) s₂ F) (fun _ _=>False) s₁) (fun _ _=>False) s)
  (hs:∀ x,foldedSetIterable iter env x=pure x:=by intro _; rfl):SgX (model P w) A c ((exec (.For target iter body [] pos) env).wrap K J gd lv) fs s F:=by
 rw[exec_For]
 refine Zch (wpAny_standAt ?_)
 refine Zch (wpAny_mono h (fun x s1 h1=>?_) fun _ _ z=>z.elim)
 refine Zch (wpAny_of_eq (hs x) ?_)
 refine Zch (wpAny_standAt ?_)
 refine Zch (wpAny_holding (wpAny_mono h1 (fun it s2 h2=>?_) fun _ _ z=>z.elim))
 exact ZnP h2
end
end M
namespace M
open PySem PySem.Spec PyProof.Rows L2 GenW
def ZeH(pins:List (YD×Obj))(s:YH)(H:Hp):Prop:=∀ p∈pins,s.heap.get? p.1=some p.2∧H p.1=none
def ZnQ(g:Nat)(o:Obj):Prop:=o.cls = .type "generator" ∧ (∃ nm qn,o.data = .fields #[.int g 0,nm,qn])∧o.slots = #[]
structure Bk(P:YE)(w:YF)(n0:Nat)(outer:List Env)(s:YH)(H:Hp)(s':YH)(H':Hp):Prop where
 os:s'.os=s.os
 bare:AllBare s'.gens
 hok:HOk P w H' s'.heap
 un:∃ ch,(∀ b∈ch,n0 ≤ b)∧Un (frs outer) ch H H' s.heap s'.heap
structure Zmo(a:YD)(g n0:Nat)(pins:List (YD×Obj)):Prop where
 gen:∃ o,(a,o)∈pins∧ZnQ g o
 up:∀ p∈pins,n0 ≤ p.1∧∀ v,p.2.data≠.cell v
def Zfy(H0:Hp)(F0:List YD)(N:Hp→Prop):Prop:=∀ H H2 S,N H→Za S H H2→(∀ b∈S,b∉F0∧H0 b≠none)→N H2
def ZnR(P:YE)(w:YF)(K:YA)(mg:Str→Option YG)(base:Heap)(A:Around)(outer:List Env)(n0:Nat)(H0:Hp)(F0:List YD)(a:YD)(g:Nat):List PyData→List (YD×Obj)→(Hp→Prop)→GenState→Prop
 | [],pins,N,gs=>∀ s H,Env0 P w K mg base A outer s H→ZeH pins s H→N H→g < s.gens.size→GoX (model P w) A.in1 (s.setGen g .running) (fun e s'=>e = .ret (.ok (.ret .none))∧∃ H',Za [] H H'∧Bk P w n0 outer s H s' H') gs
 | z :: zs,pins,N,gs=>∀ s H,Env0 P w K mg base A outer s H→ZeH pins s H→N H→g < s.gens.size→GoX (model P w) A.in1 (s.setGen g .running) (fun e s'=>∃ v b l k c p fs x H' pins' N',e = .susp v b l k c p fs∧RelV x v∧Im K H' x z∧Za [] H H' ∧
     Bk P w n0 outer s H s' H'∧ZeH pins' s' H'∧Zmo a g n0 pins'∧N' H'∧Zfy H0 F0 N'∧ZnR P w K mg base A outer n0 H0 F0 a g zs pins' N' e.genState) gs
structure Ztb(X:Cx)(n0:Nat)(H0:Hp)(F0:List YD)(a:YD)(g:Nat)(zs:List PyData)(pins pG:List (YD×Obj))(σ:L2.St)(H:Hp)(s:YH):Prop where
 I:Inv X (pins++pG) σ H s
 pg:Zmo a g n0 pG
 gs:∃ gs N,s.gens[g]? = some gs∧N H∧Zfy H0 F0 N∧ZnR X.prog X.w X.K X.mg X.base X.A X.stack n0 H0 F0 a g zs pG N gs
structure Low(X:Cx)(n0:Nat)(pins:List (YD×Obj)):Prop where
 s0:X.s_0.heap.objs.size ≤ n0
 loc:X.env.locals < n0
 cell:∀ x c,X.env.cells.lookup x=some c→c < n0
 pin:∀ p∈X.pn++pins,p.1 < n0
section
variable {X:Cx} {pins pG:List (YD×Obj)} {σ:L2.St} {H H' H0:Hp} {s s' t:YH} {n0 g:Nat} {a:YD} {F0:List YD} {z:PyData} {zs:List PyData}
theorem Inv.gensOf(I:Inv X pins σ H s){G:Array GenState}(hb:AllBare G):Inv X pins σ H { s with gens:=G }:=⟨I.ok,I.os,hb,I.base,I.loc,I.cell,I.free,I.freeC,I.pin,I.hok,I.len⟩
theorem ZpU(I:Inv X pins σ H t)(hb:AllBare s.gens):Inv X pins σ H (un (ZgV s) t):=Inv.gensOf I (ZnO hb I.bare)
theorem ZnS(I:Inv X pins σ H s):Inv X pins σ H (psn s):=Inv.gensOf I (Zml I.bare)
theorem Inv.pnOnly(I:Inv X pins σ H s){p2:List (YD×Obj)}(h:∀ p∈p2,p∈pins):Inv X p2 σ H s:=I.pins_of fun p hp=>I.pin p (Yp _ (h p hp))
theorem ZnQ.is{h:Heap}{o:Obj}(q:ZnQ g o)(e:h.get? a=some o):h.IsGen a g:=by
 obtain⟨h1,⟨nm,qn,h2⟩,h3⟩:=q
 exact⟨o,nm,qn,e,h1,h2,h3⟩
theorem Zlj{gs:GenState}(h:s.gens[g]? = some gs):g < s.gens.size:=(Array.getElem?_eq_some_iff.mp h).1
theorem Zlk(L:Low X n0 pins)(I:Inv X pins σ H s):∀ b∈X.fs,b < n0:=fun b hb=>by
 obtain⟨_,o,e,_⟩:=I.ok.funs.mem hb
 exact Nat.lt_of_lt_of_le (Heap.lt_size e) L.s0
theorem ZnT(L:Low X n0 pins)(I:Inv X pins σ H s)(pg:Zmo a g n0 pG)(ok:ZeH pG s H):Inv X (pins++pG) σ H s:=by
 refine I.pins_of fun p hp=>?_
 rcases Yh.mp hp with h | h
 ·exact I.pin p (Yp _ h)
 ·have h1:=pg.up p h
  have no:∀ {d:YD},d < n0→p.1≠d:=fun {d} h e=>absurd (Nat.lt_of_lt_of_le (by rw[← e]at h; exact h) h1.1) (Nat.lt_irrefl _)
  exact⟨(ok p h).1,(ok p h).2,no L.loc,fun e=>no (Zlk L I _ e) rfl,h1.2⟩
theorem ZhJ(I:Inv X (pins++pG) σ H s):ZeH pG s H:=fun p hp=>by
 obtain⟨h1,h2,_⟩:=I.pin p (Yp _ (Yp _ hp))
 exact⟨h1,h2⟩
theorem ZdY{α : Type}{m:Sem α}{Q : α→YH→Prop}(hx:∀ e s',¬ X.xe e s')(x:Inv X (pins++pG) σ H s)(n:∃ gs,s.gens[g]? = some gs∧Slp gs)(h:∀ t,Inv X (pins++pG) σ H t→wpAny (model X.prog X.w) X.A m Q X.xe t) :
  wpAny (model X.prog X.w) X.A m (fun b s'=>(∀ gs,s.gens[g]? = some gs→s'.gens[g]? = some gs)∧∃ t,(∀ pins' σ' H',Inv X pins' σ' H' t→Inv X pins' σ' H' s')∧Q b t) X.xe s:=by
 obtain⟨gs,hg,hs⟩:=n
 refine wpAny_mono (Zlh (h (psn s) (ZnS x))) (fun b s' ⟨h1,t,e,q⟩=>?_) fun e s' ⟨_,t,_,q⟩=>(hx e t q).elim
 refine⟨fun gs' hg'=>?_,t,fun pins' σ' H' I=>?_,q⟩
 ·rw[hg]at hg'
  cases hg'
  exact h1 g gs (ZpQ hg hs)
 ·rw[e]
  exact ZpU I x.bare
end
abbrev TIG:=L2.St→Hp→(List PyData→List YD→Hp→Prop)→Prop
structure PIG(X:Cx)(iter:Expr)(wi:TIG):Prop where
 run:∀ (pins:List (YD×Obj)) (s:YH) (σ:L2.St) (H:Hp) (R:List PyData→List YD→Hp→Prop),Inv X pins σ H s→wi σ H R →
  wpAny (model X.prog X.w) X.A (eval iter X.env) (fun v s1=>∃ a g n0 zs F0 H1 pG,v = .ref a∧R zs F0 H1∧Low X n0 pins∧Ztb X n0 H1 F0 a g zs pins pG σ H1 s1) X.xe s
def Zce(L:Nat)(h:Heap):Heap:={ h with objs:=h.objs.extract 0 L }
theorem Zfd{L b:Nat}{h:Heap}:(Zce L h).get? b=if b < L then h.get? b else none:=by
 unfold Heap.get? Zce
 simp only[Array.getElem?_extract,Nat.sub_zero,Nat.zero_add]
 by_cases h1:b < L
 ·rw[if_pos h1]
  by_cases h2:b < h.objs.size
  ·rw[if_pos (by omega)]
  ·rw[if_neg (by omega),Array.getElem?_eq_none (by omega)]
 ·rw[if_neg h1,if_neg (by omega)]
theorem Zkt{L b:Nat}{h:Heap}{o:Obj}(e:(Zce L h).get? b=some o):b < L∧h.get? b=some o:=by
 rw[Zfd]at e
 split at e
 ·exact⟨by assumption,e⟩
 ·cases e
theorem ZdZ{L:Nat}{h:Heap}(hl:L ≤ h.objs.size):(Zce L h).objs.size=L:=by
 show(h.objs.extract 0 L).size=L
 rw[Array.size_extract]
 omega
theorem Zhi{L:Nat}{h base:Heap}:∀ {l:List Env},h.FunFrames base l→(∀ b∈frs l,b < L)→(Zce L h).FunFrames base l
 | [],_,_=>trivial
 | env :: l,⟨hk,⟨b,o,hf,hn,ho,hd⟩,hr⟩,hb=>by
   have e:frs (env :: l)=b :: frs l:=by unfold frs; rw[List.filterMap_cons,hf]
   rw[e]at hb
   exact⟨hk,⟨b,o,hf,hn,by rw[Zfd,if_pos (hb b Yg)]; exact ho,hd⟩,Zhi hr fun c hc=>hb c (Yf _ hc)⟩
def rb(X:Cx)(s:YH)(H:Hp):Cx:={ X with s_0:={ s with heap:=Zce X.env.locals s.heap },H_0:=H,ex:=[],pn:=[] }
structure Sta(X:Cx):Prop where
 mod:Mod X.K X.mg X.base
 kind:X.env.scope.kind = .function
 glob:X.env.globals=mainGlobals
 blt:X.env.builtins=builtinsNs
 nc:∀ x,X.env.cells.lookup x=none
 nk:∀ x,¬ (X.env.kindOf x=some .cell∨X.env.kindOf x=some .free)
 hd:X.A.handled=none
 calm:X.calm=true
 frames:X.A.frames=some X.stack
 stk:X.stack=X.env :: X.outer
 frm:X.env.frame=some X.env.locals
 bsz:X.base.objs.size ≤ X.env.locals
 low:∀ b∈frs X.outer,b < X.env.locals
 nx:∀ e s',¬ X.xe e s'
def ZnU(X:Cx)(σ:L2.St)(s:YH):Prop:=∃ m,s.heap.Ns X.env.locals m∧∀ (i:Nat) (x:Str) (v:V),X.N[i]? = some x→σ[i]? = some (some v)→Vis X.env.scope x→∃ u,RelV v u∧Look X.env s.heap m x u
section
variable {X:Cx} {A:Around} {pins:List (YD×Obj)} {σ σ':L2.St} {H H' H2:Hp} {s s' s2:YH} {n0 g:Nat} {a:YD}
theorem ZrV(S:Sta X)(e:Env0 X.prog X.w X.K X.mg X.base A X.outer s H)(l:ZnU X σ s)(f:H X.env.locals=none)(len : σ.length=X.N.length):Inv (rb X s H) [] σ H s:=by
 obtain⟨m,hn,hl⟩:=id l
 have lt:=hn.lt
 have tr:(Zce X.env.locals s.heap).objs.size=X.env.locals:=ZdZ (Nat.le_of_lt lt)
 refine⟨⟨S.mod,S.kind,S.glob,S.blt,Nat.le_of_eq tr,fun x y c h=>?_,fun x h=>(S.nk x h).elim,fun x c _ h=>?_,fun _=>S.hd,S.frames,.inr ⟨S.stk,S.frm⟩,fun b z=>(nomatch z),fun b o h=>?_,?_,fun b o _ z=>(nomatch z),fun b z=>(nomatch z),?_,e.frf⟩,
  rfl,e.bare,?_,l,fun x c h=>?_,f,fun x c h=>?_,fun p hp=>?_,e.hok,len⟩
 ·have h:X.env.cells.lookup x=some c:=h
  rw[S.nc]at h; cases h
 ·have h:X.env.cells.lookup x=some c:=h
  rw[S.nc]at h; cases h
 ·obtain⟨h1,h2⟩:=e.bs b o h
  refine⟨?_,h2⟩
  show(Zce X.env.locals s.heap).get? b=some o
  rw[Zfd,if_pos (Nat.lt_of_lt_of_le (Heap.lt_size h) S.bsz)]
  exact h1
 ·show X.base.objs.size ≤ (Zce X.env.locals s.heap).objs.size
  rw[tr]; exact S.bsz
 ·exact Zhi e.funs S.low
 ·exact Un.kept fun b o h=>(Zkt h).2
 ·have h:X.env.cells.lookup x=some c:=h
  rw[S.nc]at h; cases h
 ·have h:X.env.cells.lookup x=some c:=h
  rw[S.nc]at h; cases h
 ·exact(Ya (show p∈([]:List (YD×Obj))++[]from hp)).elim
theorem ZrW(S:Sta X)(I:Inv (rb X s H) pins σ H' s'):Env0 X.prog X.w X.K X.mg X.base { X.A with frames:=some X.outer } X.outer s' H':=by
 refine⟨rfl,S.mod,I.bs,?_,I.funs,fun b hb=>?_,I.hok,I.bare⟩
 ·have h:X.env.locals < s'.heap.objs.size:=I.lt
  exact Nat.le_trans S.bsz (Nat.le_of_lt h)
 ·exact I.stkFree b (by
   show b∈frs X.stack
   rw[S.stk]
   unfold frs
   rw[List.filterMap_cons,S.frm]
   exact Yf _ hb)
theorem rebase(S:Sta X)(I:Inv (rb X s H) pins σ H' s'):Inv (rb X s' H') [] σ H' s':=ZrV S (ZrW S I) I.loc I.free I.len
def Zgu(o:Obj):Bool:=match o.data with
 | .cell _=>false
 | _=>true
def Zix(L:Nat)(ch:List YD)(s:YH)(H:Hp):List (YD×Obj):=(List.range s.heap.objs.size).filterMap fun b=>match s.heap.get? b with
 | some o=>if L < b∧b∉ch∧(H b).isNone∧Zgu o=true then some (b,o)else none
 | none=>none
def ZcS(o:Obj):Prop:=∀ v,o.data≠.cell v
theorem Zfz{o:Obj}:Zgu o=true↔ZcS o:=by
 unfold ZcS Zgu
 cases o.data <;> simp
theorem Zdw{L:Nat}{ch:List YD}{b:YD}{o:Obj}:(b,o)∈Zix L ch s H↔L < b∧b∉ch∧H b=none∧ZcS o∧s.heap.get? b=some o:=by
 unfold Zix
 rw[List.mem_filterMap]
 constructor
 ·rintro⟨c,hc,e⟩
  cases h:s.heap.get? c with
  | none=>rw[h]at e; cases e
  | some q =>
    rw[h]at e
    dsimp only at e
    split at e
    ·cases e
     rename_i z
     exact⟨z.1,z.2.1,by simpa using z.2.2.1,Zfz.mp z.2.2.2,h⟩
    ·cases e
 ·rintro⟨h1,h2,h3,h4,h5⟩
  refine⟨b,List.mem_range.mpr (Heap.lt_size h5),?_⟩
  rw[h5]
  dsimp only
  rw[if_pos ⟨h1,h2,by rw[h3]; rfl,Zfz.mpr h4⟩]
theorem Zgv(S:Sta X)(I:Inv (rb X s H) [] σ H s)(ch:List YD):Inv (rb X s H) (Zix X.env.locals ch s H) σ H s:=by
 refine I.pins_of fun p hp=>?_
 obtain⟨b,o⟩:=p
 obtain⟨h1,h2,h3,h4,h5⟩:=Zdw.mp hp
 refine⟨h5,h3,Nat.ne_of_gt h1,fun z=>absurd (S.low b z) (Nat.not_lt.mpr (Nat.le_of_lt h1)),h4⟩
structure Leg(X:Cx)(ch:List YD)(s:YH)(H:Hp)(s':YH)(H':Hp):Prop where
 os:s'.os=s.os
 keep:∀ b o,s.heap.get? b=some o→H b=none→b∉frs X.outer→b≠X.env.locals→b∉ch→(b < X.env.locals∨ZcS o)→s'.heap.get? b=some o
 slot:∀ b o,s.heap.get? b=some o→H b=none→b∈frs X.outer→∃ sl,s'.heap.get? b=some { o with slots:=sl }
 free:∀ b o,s.heap.get? b=some o→H b=none→b≠X.env.locals→b∉ch→(b < X.env.locals∨ZcS o)→H' b=none
 tups:∀ b xs,H b=some (.tup xs)→H' b=some (.tup xs)
 frzs:∀ b o u,H b=some (.frz o u)→H' b=some (.frz o u)
 tbls:∀ b ps,H b=some (.tbl ps)→∃ more,H' b=some (.tbl (ps++more))
 there:∀ b o,s.heap.get? b=some o→b≠X.env.locals→b∉ch→(b < X.env.locals∨ZcS o∨H b≠none)→∃ o',s'.heap.get? b=some o'∧(b < X.env.locals∨ZcS o'∨H' b≠none)
theorem Ziy(S:Sta X){ch:List YD}(I:Inv (rb X s H) (Zix X.env.locals ch s H) σ' H' s')(dom:∀ b,H b≠none→H' b≠none):Leg X ch s H s' H':=by
 have B:=I.base
 have pin:∀ {b o},X.env.locals < b→b∉ch→H b=none→ZcS o→s.heap.get? b=some o→s'.heap.get? b=some o∧H' b=none:=fun {b o} h1 h2 h3 h4 h5=>by
  obtain⟨q1,q2,_⟩:=I.pin (b,o) (Yp _ (Zdw.mpr ⟨h1,h2,h3,h4,h5⟩))
  exact⟨q1,q2⟩
 have tr:∀ {b o},b < X.env.locals→s.heap.get? b=some o→(Zce X.env.locals s.heap).get? b=some o:=fun {b o} h e=>by rw[Zfd,if_pos h]; exact e
 have ne:∀ b:YD,b∉(rb X s H).ex:=fun b z=>nomatch z
 refine⟨I.os,fun b o e n hf hL hc hd=>?_,fun b o e n hf=>?_,fun b o e n hL hc hd=>?_,B.tups,B.frzs,B.tbls,fun b o e hL hc hd=>?_⟩
 ·by_cases hb:b < X.env.locals
  ·exact B.keep b o (tr hb e) n hf (ne b)
  ·exact(pin (Nat.lt_of_le_of_ne (Nat.le_of_not_lt hb) (Ne.symm hL)) hc n (hd.resolve_left hb) e).1
 ·exact B.slot b o (tr (S.low b hf) e) n hf (ne b)
 ·by_cases hb:b < X.env.locals
  ·exact B.free b o (tr hb e) n (ne b)
  ·exact(pin (Nat.lt_of_le_of_ne (Nat.le_of_not_lt hb) (Ne.symm hL)) hc n (hd.resolve_left hb) e).2
 ·by_cases hb:b < X.env.locals
  ·obtain⟨o',e'⟩:=B.there b o (tr hb e) (ne b)
   exact⟨o',e',.inl hb⟩
  ·cases hH:H b with
   | none =>
     rcases hd.resolve_left hb with q | q
     ·exact⟨o,(pin (Nat.lt_of_le_of_ne (Nat.le_of_not_lt hb) (Ne.symm hL)) hc hH q e).1,.inr (.inl q)⟩
     ·exact(q hH).elim
   | some u =>
     have h':=dom b (by rw[hH]; exact fun z=>nomatch z)
     cases hH':H' b with
     | none=>exact(h' hH').elim
     | some u' =>
       cases e':s'.heap.get? b with
       | none =>
         have:=I.hok.gone e'
         rw[hH']at this
         cases this
       | some o'=>exact⟨o',rfl,.inr (.inr fun z=>nomatch z)⟩
theorem Leg.trans(S:Sta X){c c1 c2:List YD}(a:Leg X c1 s H s' H')(b:Leg X c2 s' H' s2 H2)(h1:∀ x∈c1,x∈c)(h2:∀ x∈c2,x∈c∨s.heap.get? x=none)(hc:∀ x∈c,X.env.locals < x):Leg X c s H s2 H2:=by
 have n1:∀ {x:YD},x∉c→x∉c1:=fun {x} h z=>h (h1 x z)
 have n2:∀ {x:YD} {o:Obj},s.heap.get? x=some o→x∉c→x∉c2:=fun {x o} e h z=>by
  rcases h2 x z with q | q
  ·exact h q
  ·rw[e]at q; cases q
 have nl:∀ {x:YD},x < X.env.locals→x∉c:=fun {x} h z=>absurd (hc x z) (Nat.not_lt.mpr (Nat.le_of_lt h))
 refine⟨b.os.trans a.os,fun x o e n hf hL hx hd=>?_,fun x o e n hf=>?_,fun x o e n hL hx hd=>?_,fun x xs e=>b.tups x xs (a.tups x xs e),fun x o u e=>b.frzs x o u (a.frzs x o u e),fun x ps e=>?_,fun x o e hL hx hd=>?_⟩
 ·exact b.keep x o (a.keep x o e n hf hL (n1 hx) hd) (a.free x o e n hL (n1 hx) hd) hf hL (n2 e hx) hd
 ·have lt:=S.low x hf
  obtain⟨sl,e1⟩:=a.slot x o e n hf
  obtain⟨sl2,e2⟩:=b.slot x _ e1 (a.free x o e n (YQ lt) (n1 (nl lt)) (.inl lt)) hf
  exact⟨sl2,e2⟩
 ·have f1:=a.free x o e n hL (n1 hx) hd
  by_cases hf:x∈frs X.outer
  ·have lt:=S.low x hf
   obtain⟨sl,e1⟩:=a.slot x o e n hf
   exact b.free x _ e1 f1 hL (n2 e hx) (.inl lt)
  ·exact b.free x o (a.keep x o e n hf hL (n1 hx) hd) f1 hL (n2 e hx) hd
 ·obtain⟨m1,e1⟩:=a.tbls x ps e
  obtain⟨m2,e2⟩:=b.tbls x _ e1
  exact⟨m1++m2,by rw[e2,Array.append_assoc]⟩
 ·obtain⟨o1,e1,d1⟩:=a.there x o e hL (n1 hx) hd
  exact b.there x o1 e1 hL (n2 e hx) d1
def ZsK(L:Nat)(s:YH):List YD:=(List.range s.heap.objs.size).filter fun b=>match s.heap.get? b with
 | some o=>decide (L ≤ b) && !Zgu o
 | none=>false
theorem Leg.bk{c:List YD}(l:Leg X c s H s' H')(hc:∀ x∈c,X.env.locals < x)(hb:AllBare s'.gens)(hk:HOk X.prog X.w H' s'.heap):Bk X.prog X.w X.env.locals X.outer s H s' H':=by
 refine⟨l.os,hb,hk,X.env.locals :: c++ZsK X.env.locals s,fun b hb=>?_,?_⟩
 ·rcases Yh.mp hb with hb | hb
  ·rcases Yn.mp hb with rfl | hb
   ·exact YO _
   ·exact Nat.le_of_lt (hc b hb)
  ·obtain⟨_,h⟩:=List.mem_filter.mp hb
   cases e:s.heap.get? b with
   | none=>rw[e]at h; cases h
   | some o =>
     rw[e]at h
     exact of_decide_eq_true (Bool.and_eq_true_iff.mp h).1
 ·have split:∀ {b:YD} {o:Obj},s.heap.get? b=some o→b∉X.env.locals :: c++ZsK X.env.locals s→b≠X.env.locals∧b∉c∧(b < X.env.locals∨ZcS o):=fun {b o} e h=>by
   rw[Yh,Yn,not_or,not_or]at h
   refine⟨h.1.1,h.1.2,?_⟩
   by_cases hl:b < X.env.locals
   ·exact .inl hl
   ·refine .inr (Zfz.mp ?_)
    cases hz:Zgu o with
    | true=>rfl
    | false =>
      exfalso
      refine h.2 (List.mem_filter.mpr ⟨List.mem_range.mpr (Heap.lt_size e),?_⟩)
      rw[e]
      dsimp only
      rw[hz,decide_eq_true (Nat.le_of_not_lt hl)]
      rfl
  refine⟨fun b o e n hf hx=>?_,fun b o e n hf _=>l.slot b o e n hf,fun b o e n hx=>?_,fun b o e hx=>?_,l.tups,l.frzs,l.tbls⟩
  ·obtain⟨q1,q2,q3⟩:=split e hx
   exact l.keep b o e n hf q1 q2 q3
  ·obtain⟨q1,q2,q3⟩:=split e hx
   exact l.free b o e n q1 q2 q3
  ·obtain⟨q1,q2,q3⟩:=split e hx
   obtain⟨o',e',_⟩:=l.there b o e q1 q2 (q3.imp id .inl)
   exact⟨o',e'⟩
end
abbrev SI(X:Cx)(σ:L2.St)(H:Hp)(s:YH):Prop:=Inv (rb X s H) [] σ H s
section
variable {X:Cx} {σ:L2.St} {H H':Hp} {s s':YH} {tg iter e:Expr} {wi:TI} {te:TE} {g:TG} {x:V} {u:YG}
def Zku(X:Cx)(s:YH)(H:Hp)(s':YH)(H':Hp):Prop:=∃ c,(∀ x∈c,X.env.locals < x)∧Leg X c s H s' H'
theorem Leg.toE{c:List YD}(l:Leg X c s H s' H')(h:∀ x∈c,X.env.locals < x):Zku X s H s' H':=⟨c,h,l⟩
theorem Leg.e0(l:Leg X [] s H s' H'):Zku X s H s' H':=⟨[],fun _ z=>(nomatch z),l⟩
theorem Zku.trans(S:Sta X){s2:YH}{H2:Hp}(a:Zku X s H s' H')(b:Zku X s' H' s2 H2):Zku X s H s2 H2:=by
 obtain⟨c1,h1,l1⟩:=a
 obtain⟨c2,h2,l2⟩:=b
 refine⟨c1++c2,fun x hx=>(Yh.mp hx).elim (h1 x) (h2 x),l1.trans S l2 (fun x hx=>Yo _ hx) (fun x hx=>.inl (Yp _ hx)) fun x hx=>(Yh.mp hx).elim (h1 x) (h2 x)⟩
theorem Leg.refl(S:Sta X):Leg X [] s H s H :=
 ⟨rfl,fun _ _ e _ _ _ _ _=>e,fun b o e _ _=>⟨o.slots,e⟩,fun _ _ _ n _ _ _=>n,fun _ _ e=>e,fun _ _ _ e=>e,fun _ ps e=>⟨#[],by rw[e]; simp⟩,fun b o e _ _ d=>⟨o,e,d⟩⟩
theorem Zku.refl(S:Sta X):Zku X s H s H:=(Leg.refl S).e0
structure Own(X:Cx)(fp:List YD)(H:Hp):Prop where
 up:∀ b∈fp,X.env.locals < b∧H b=none
theorem Zgw(k:Za [] H H'):∀ b,H b≠none→H' b≠none:=fun b h=>by
 cases e:H b with
 | none=>exact(h e).elim
 | some u =>
   obtain⟨u',e'⟩:=k.dom b u e
   rw[e']
   exact fun z=>nomatch z
theorem Leg.tn{P:YE}{w:YF}{K:YA}{J:It}{fp ch:List YD}{it:YD}{tn:Nat→Heap→Prop}{j:Nat}(S:Sta X)(T:Turn P w K tg J fp it tn)(o:Own X fp H)(d:∀ b∈fp,b∉ch)(l:Leg X ch s H s' H')(h:tn j s.heap):tn j s'.heap∧Own X fp H':=by
 have nf:∀ b∈fp,b∉frs X.outer:=fun b hb z=>absurd (S.low b z) (Nat.not_lt.mpr (Nat.le_of_lt (o.up b hb).1))
 refine⟨T.keep _ _ _ h fun b hb ob e=>?_,⟨fun b hb=>⟨(o.up b hb).1,?_⟩⟩⟩
 ·obtain⟨o',e',nc⟩:=T.obj _ _ h b hb
  rw[e]at e'
  cases e'
  exact l.keep b ob e (o.up b hb).2 (nf b hb) (Nat.ne_of_gt (o.up b hb).1) (d b hb) (.inr nc)
 ·obtain⟨o',e',nc⟩:=T.obj _ _ h b hb
  exact l.free b o' e' (o.up b hb).2 (Nat.ne_of_gt (o.up b hb).1) (d b hb) (.inr nc)
theorem ZpV(S:Sta X)(I:SI X σ H s)(he:PE (rb X s H) e te){q:VK}(h:te σ H fun x H'=>Za [] H H'∧q x H') :
  wpAny (model X.prog X.w) X.A (eval e X.env) (fun v s'=>∃ x H',SI X σ H' s'∧Leg X [] s H s' H'∧RelV x v∧Za [] H H'∧q x H') (fun _ _=>False) s:=by
 refine wpAny_mono (he.run _ s σ H _ (Zgv S I []) h) (fun v s' ⟨x,H',I',r,k,hq⟩=>?_) fun e' s' z=>S.nx _ _ z
 exact⟨x,H',rebase S I',Ziy S I' (Zgw k),r,k,hq⟩
theorem Zna(S:Sta X)(I:SI X σ H s)(hg:PG (rb X s H) tg g)(r:RelV x u){N:L2.St→Hp→Prop}(h:g x σ H fun σ' H'=>Za [] H H'∧N σ' H') :
  wpAny (model X.prog X.w) X.A (assign tg X.env u) (fun _ s'=>∃ σ' H',SI X σ' H' s'∧Leg X [] s H s' H'∧Za [] H H'∧N σ' H') (fun _ _=>False) s:=by
 refine wpAny_mono (hg.run _ s σ H x u _ (Zgv S I []) r h) (fun v s' ⟨σ',H',I',k,hq⟩=>?_) fun e' s' z=>S.nx _ _ z
 exact⟨σ',H',rebase S I',Ziy S I' (Zgw k),k,hq⟩
theorem Znb(S:Sta X)(I:SI X σ H s)(hi:PI (rb X s H) tg iter wi){R:It→Hp→Prop}(h:wi σ H fun J H'=>Za [] H H'∧R J H') :
  wpAny (model X.prog X.w) X.A (eval iter X.env) (fun v s1=>wpAny (model X.prog X.w) X.A (pyIter v) (fun itv s2=>∃ it fp tn J H',itv = .ref it∧SI X σ H' s2∧Leg X [] s H s2 H'∧Turn X.prog X.w X.K tg J fp it tn∧tn 0 s2.heap∧Own X fp H' ∧
   (∀ (b:YD) (o:Obj),s.heap.get? b=some o→X.env.locals < b→H b=none→ZcS o→b∉fp)∧Za [] H H'∧R J H') (fun _ _=>False) s1) (fun _ _=>False) s:=by
 refine wpAny_mono (hi.run _ s σ H _ (Zgv S I []) h) (fun v s1 h1=>wpAny_mono h1 (fun itv s2 h2=>?_) fun e' s' z=>S.nx _ _ z) fun e' s' z=>S.nx _ _ z
 obtain⟨it,fp,tn,J,H',rfl,I',T,t0,fo,k,hr⟩:=h2
 refine⟨it,fp,tn,J,H',rfl,rebase S I',Ziy S I' (Zgw k),T,t0,⟨fun b hb=>?_⟩,fun b o e1 e2 e3 e4 hb=>?_,k,hr⟩
 ·obtain⟨f0,f1,f2,f3,f4,f5⟩:=fo b hb
  refine⟨?_,f0⟩
  rcases f3 with z | z
  ·exact(nomatch z)
  ·have tr:(Zce X.env.locals s.heap).objs.size=X.env.locals:=ZdZ (Nat.le_of_lt I.lt)
   have z:(Zce X.env.locals s.heap).objs.size ≤ b:=z
   rw[tr]at z
   exact Nat.lt_of_le_of_ne z fun q=>f1 q.symm
 ·obtain⟨f0,f1,f2,f3,f4,f5⟩:=fo b hb
  exact f5 (b,o) (Yp _ (Zdw.mpr ⟨e2,fun z=>(nomatch z),e3,e4,e1⟩)) rfl
theorem Zj0(S:Sta X)(I:SI X σ H s){J:It}{fp:List YD}{it:YD}{tn:Nat→Heap→Prop}{j:Nat}(T:Turn X.prog X.w X.K tg J fp it tn)(o:Own X fp H)(t:tn j s.heap)(go:J.go j H)(hy:∀ x H',J.yld j H x H'→Za [] H H') :
  wpAny (model X.prog X.w) X.A (pyNext (.ref it)) (fun r s1=>∃ u,r=some u∧wpAny (model X.prog X.w) X.A (letOwnedTupleGo tg (.ref it) u) (fun _ s2=>∃ x H',SI X σ H' s2∧Leg X fp s H s2 H'∧RelV x u∧J.yld j H x H'∧tn (j + 1) s2.heap∧Own X fp H') (fun _ _=>False) s1) (fun _ _=>False) s:=by
 have fo:∀ b∈fp,FpOk (rb X s H) (Zix X.env.locals fp s H) H b:=fun b hb=>by
  obtain⟨h1,h2⟩:=o.up b hb
  have tr:(Zce X.env.locals s.heap).objs.size=X.env.locals:=ZdZ (Nat.le_of_lt I.lt)
  refine⟨h2,Nat.ne_of_gt h1,fun z=>absurd (S.low b z) (Nat.not_lt.mpr (Nat.le_of_lt h1)),.inr ?_,fun x c e=>?_,fun p hp z=>?_⟩
  ·show(Zce X.env.locals s.heap).objs.size ≤ b
   rw[tr]; exact Nat.le_of_lt h1
  ·have e:X.env.cells.lookup x=some c:=e
   rw[S.nc]at e; cases e
  ·obtain⟨c,oc⟩:=p
   have z:c=b:=z
   subst z
   exact(Zdw.mp (show(c,oc)∈Zix X.env.locals fp s H from hp)).2.1 hb
 refine wpAny_mono (T.item (rb X s H) rfl rfl rfl S.calm j _ s σ H (fun _ _=>False) (Zgv S I fp) fo t go) (fun r s1 ⟨u,hr,h1⟩=>⟨u,hr,wpAny_mono h1 (fun _ s2 h2=>?_) fun _ _ z=>z⟩) fun _ _ z=>z
 obtain⟨x,H',I',r,y,t',f'⟩:=h2
 exact⟨x,H',rebase S I',Ziy S I' (Zgw (hy x H' y)),r,y,t',⟨fun b hb=>⟨(o.up b hb).1,f' b hb⟩⟩⟩
theorem Zj1(S:Sta X)(I:SI X σ H s){J:It}{fp:List YD}{it:YD}{tn:Nat→Heap→Prop}{j:Nat}(T:Turn X.prog X.w X.K tg J fp it tn)(o:Own X fp H)(t:tn j s.heap)(st:J.stop j H) :
  wpAny (model X.prog X.w) X.A (pyNext (.ref it)) (fun r s1=>r=none∧SI X σ H s1∧Leg X fp s H s1 H) (fun _ _=>False) s:=by
 have fo:∀ b∈fp,FpOk (rb X s H) (Zix X.env.locals fp s H) H b:=fun b hb=>by
  obtain⟨h1,h2⟩:=o.up b hb
  have tr:(Zce X.env.locals s.heap).objs.size=X.env.locals:=ZdZ (Nat.le_of_lt I.lt)
  refine⟨h2,Nat.ne_of_gt h1,fun z=>absurd (S.low b z) (Nat.not_lt.mpr (Nat.le_of_lt h1)),.inr ?_,fun x c e=>?_,fun p hp z=>?_⟩
  ·show(Zce X.env.locals s.heap).objs.size ≤ b
   rw[tr]; exact Nat.le_of_lt h1
  ·have e:X.env.cells.lookup x=some c:=e
   rw[S.nc]at e; cases e
  ·obtain⟨c,oc⟩:=p
   have z:c=b:=z
   subst z
   exact(Zdw.mp (show(c,oc)∈Zix X.env.locals fp s H from hp)).2.1 hb
 refine wpAny_mono (T.done (rb X s H) rfl rfl rfl S.calm j _ s σ H (fun _ _=>False) (Zgv S I fp) fo t st) (fun r s1 ⟨hr,I'⟩=>?_) fun _ _ z=>z
 exact⟨hr,rebase S I',Ziy S I' fun _ h=>h⟩
theorem ZhK{Md:Model}{A:Around}{c:Code}{fs:List Frame}{F:End→YH→Prop}{env:Env}{K:Flow→Sem PySem.Fin}{J:YG→Sem PySem.Fin}{gd:Bool→Bool}{lv:List YG→List YG}{ypos pos:Pos}(hfs:splitAtGen fs=none)(hgd:gd false=false)(hfg:fs.any Frame.guarded=false)
  (h:wpAny Md (A.over c fs) (eval e env) (fun v s'=>∀ b l kk p,(∀ s'' F'',SgX Md A c (K .next) fs s'' F''→SgX Md A c (kk (.send .none)) fs s'' F'')→F (.susp v b l kk c p fs) s') (fun _ _=>False) s) (hco:env.scope.isCoroutine=false:=by rfl) (hi:interactive env=false:=by rfl) :
  SgX Md A c ((exec (.Expr (.Yield (some e) ypos) pos) env).wrap K J gd lv) fs s F:=by
 rw[exec_Expr env _ pos hi rfl]
 show SgX Md A c (.at pos fun _=>((eval e env >>= fun v=>(standAt ypos >>= fun _=>yieldOut env v)) >>= fun x=>dropValue (.Yield (some e) ypos) pos x).wrap K J gd lv) fs s F
 have hy:∀ v,yieldOut env v=yieldValue v:=fun v=>by simp only[yieldOut,hco,Bool.false_eq_true,if_false]
 simp only[hy]
 refine ZpS ?_
 rw[Sem.bind_eq_wrap',Sem.bind_eq_wrap',Sem.wrap_wrap,Sem.wrap_wrap]
 refine ZhG (wpAny_mono h (fun v s' h'=>?_) fun _ _ z=>z.elim)
 refine ZpS (Zmn hfs hgd hfg fun p=>h' _ _ _ p fun s'' F'' hx=>?_)
 exact hx
end
end M
namespace M
open PySem PySem.Spec PyProof.Rows L2 SlX
theorem Zfe:bootBuiltins "sorted" = some (.builtin "sorted"):=by decide +kernel
def rIsN:R2:=fun x y H Q=>y = .non∧Q (.bl (decide (x = .non))) H
def rNotN:R2:=fun x y H Q=>y = .non∧Q (.bl (!decide (x = .non))) H
theorem op_isN1{X:Cx}:OpR X (compareOp .Is) rIsN:=op_isN
theorem op_notN1{X:Cx}:OpR X (compareOp .IsNot) rNotN:=op_notN
theorem ZrX{x:V}{H:Hp}{Q:VK}:rIsN x .non H Q=Q (.bl (decide (x = .non))) H:=propext ⟨fun h=>h.2,fun h=>⟨rfl,h⟩⟩
theorem ZpW{x:V}{H:Hp}{Q:VK}:rNotN x .non H Q=Q (.bl (!decide (x = .non))) H:=propext ⟨fun h=>h.2,fun h=>⟨rfl,h⟩⟩
theorem ZpX:decide (V.non = .non)=true:=rfl
theorem ZpY{a:YD}:decide (V.ref a = .non)=false:=rfl
theorem ZpZ{a:Str}:decide (V.str a = .non)=false:=rfl
theorem Zp0{a:Int}:decide (V.int a = .non)=false:=rfl
theorem Zp1{a:Bool}:decide (V.bl a = .non)=false:=rfl
def Zhj:List V→Hp→VK→Prop:=fun xs H Q=>∃ (a:YD) (kvs:List (Key×V)) (ks:List Str),xs=[.ref a]∧Rd H a (.dK kvs)∧kvs.map (·.1)=ks.map Sum.inr∧ks.length < 64∧∀ p H',H p=none→Za [] H H'→H' p=some (.lst ((Zdg ks).map V.str))→Q (.ref p) H'
theorem Zgf{X:Cx}(hc:X.calm=true):CallR X (.builtin "sorted") Zhj:=by
 intro pins s σ H xs us Q I r h
 obtain⟨a,kvs,ks,ex,hd,hk,h64,q⟩:=h
 exact call_sortedD hc pins s σ H xs us Q I r ⟨a,kvs,ks,ex,hd,hk,h64,fun ys p pm so hp=>by
  rw[Zmj pm so]
  exact q p _ hp (Za.new hp) Y8⟩
section
variable {K:YA} {σ:L2.St} {H:Hp} {Q:VK} {D:Ends} {S:List YD} {C a dx:YD}
theorem ZhL{d:YD}{m:List (Key×V)}{α : Type}{R:V→α→Prop}{P:List (Str×α)}(h:H d=some (.dK m))(r:ZbF kS R m P)(l:P.length < 64)(q:∀ p H',H p=none→Za [] H H'→H' p=some (.lst ((Zdg (P.map (·.1))).map V.str))→Q (.ref p) H'):Zhj [.ref d] H Q:=by
 refine⟨d,m,P.map (·.1),rfl,.inl h,?_,by simpa using l,q⟩
 rw[r.keys,Yx]
 rfl
def Znc(J:It)(g:TG)(tt:TT)(tk tv:TE)(vs:List Nat)(σ:L2.St)(H1:Hp)(Q:VK):Prop:=∀ D,H1 D=none→∃ W:Nat→Nat→Hp→Prop,(∃ m,W 0 m (upd H1 D (.dK [])))∧∀ i m H,W i m H →
 (J.stop i H∧Q (.ref D) H)∨(J.go i H∧∃ Nx:Hp→Prop,(∀ H',Nx H'→∃ m',m' < m∧W (i + 1) m' H')∧∀ x H',J.yld i H x H'→g x (wipe σ vs) H' fun σ2 H2=>wipe σ2 vs=wipe σ vs∧tt σ2 H2 fun b H3 =>
  if b=true then tk σ2 H3 fun y H4=>tv σ2 H4 fun z H5=>∃ kvs k,y=kV k∧H5 D=some (.dK kvs)∧kvs.length < YK∧Nx (upd H5 D (.dK (putK kvs k z)))else Nx H3)
theorem Ztc{wi:TI}{g:TG}{tt:TT}{tk tv:TE}{vs:List Nat}:tDc wi g tt tk tv vs σ H Q=wi σ H fun J H1=>Znc J g tt tk tv vs σ H1 Q:=rfl
def ZsL(D:YD)(R:Hp→Prop)(y z:V)(H:Hp):Prop:=∃ kvs k,y=kV k∧H D=some (.dK kvs)∧kvs.length < YK∧R (upd H D (.dK (putK kvs k z)))
theorem ZsM{D:YD}{m:List (Key×V)}{n:Str}{z:V}{R:Hp→Prop}(h:H D=some (.dK m))(l:m.length < YK)(q:∀ H',Za [D] H H'→H' D=some (.dK (putK m (kS n) z))→R H'):ZsL D R (.str n) z H :=
 ⟨m,kS n,rfl,h,l,q _ (Za.put h True.intro) Y8⟩
theorem Zll{J:It}{xs:List V}{g:TG}{tt:TT}{tk tv:TE}{vs:List Nat}(w:Wk S J xs H)(Pv:YD→Nat→Hp→Prop)(hK:∀ D i H2,Pv D i H2→Za S H H2)
  (h0:∀ D H2,H D=none→Za [] H H2→H2 D=some (.dK [])→Pv D 0 H2)
  (hs:∀ D i H2 x H3,H D=none→xs[i]? = some x→Pv D i H2→Za [] H2 H3→g x (wipe σ vs) H3 fun σ2 H4=>wipe σ2 vs=wipe σ vs∧tt σ2 H4 fun b H5 =>
   if b=true then tk σ2 H5 fun y H6=>tv σ2 H6 fun z H7=>ZsL D (Pv D (i + 1)) y z H7 else Pv D (i + 1) H5)
  (hd:∀ D H2,H D=none→Pv D xs.length H2→Q (.ref D) H2):Znc J g tt tk tv vs σ H Q:=by
 intro D hD
 refine⟨fun i m H2=>m=xs.length - i∧i ≤ xs.length∧Pv D i H2,⟨xs.length,by simp,YP _,h0 D _ hD (Za.new hD) Y8⟩,?_⟩
 rintro i m H2 ⟨rfl,hi,p⟩
 obtain⟨w1,w2,w3⟩:=w H2 (hK _ _ _ p)
 by_cases hlt:i < xs.length
 ·refine .inr ⟨w2 i hlt,Pv D (i + 1),fun H' p'=>⟨xs.length - (i + 1),by omega,rfl,hlt,p'⟩,fun x H3 y=>?_⟩
  obtain⟨e,k⟩:=w3 i x H3 hlt y
  exact hs D i H2 x H3 hD e p k
 ·have e:i=xs.length:=by omega
  subst e
  exact .inl ⟨w1,hd D H2 hD p⟩
theorem Zmp{vs:List (Option V)}(h:Slt H a C dx vs)(o:H dx=some (.own a)∨H dx=some (.xd []))(vs':List (Option V)):Za [a,dx] H (slH H a C dx vs'):=by
 have ha:(H a=some (.ins C dx []))∨∃ φ,H a=some (.ext φ):=by
  rcases h with⟨h1,_⟩ | ⟨h1,_⟩
  ·exact .inl h1
  ·exact .inr ⟨_,h1⟩
 have z:∀ b v,b≠a→b≠dx→H b=some v→slH H a C dx vs' b=some v:=fun b v n1 n2 e=>by rw[slH_ne n1 n2]; exact e
 refine⟨fun b v n e=>?_,fun b xs e=>?_,fun b ob v e=>?_,fun b v e=>?_⟩
 ·simp only[Yn,Ya,or_false,not_or]at n
  exact z b v n.1 n.2 e
 ·refine z b _ (fun q=>?_) (fun q=>?_) e
  ·rw[q]at e; rcases ha with ha | ⟨φ,ha⟩ <;> (rw[ha]at e; cases e)
  ·rw[q]at e; rcases o with o | o <;> (rw[o]at e; cases e)
 ·refine z b _ (fun q=>?_) (fun q=>?_) e
  ·rw[q]at e; rcases ha with ha | ⟨φ,ha⟩ <;> (rw[ha]at e; cases e)
  ·rw[q]at e; rcases o with o | o <;> (rw[o]at e; cases e)
 ·by_cases q1:b=a
  ·rw[q1]; exact⟨_,Y8⟩
  ·by_cases q2:b=dx
   ·refine⟨.xd [],?_⟩
    unfold slH
    rw[upd_ne q1,q2,Y8]
   ·exact⟨v,z b v q1 q2 e⟩
theorem Zlm{K:YA}{p:YD}{vs:List (Option V)}{f:Str}{i:Nat}{y:V}{R:Hp→Prop}(h:Slt H a C dx vs)(o:H dx=some (.own a)∨H dx=some (.xd []))(ne:dx≠a)(c:SCls K C)(t:Slot1 K C f p i)
  (q:∀ H',Za [a,dx] H H'→Slt H' a C dx (putS i y vs)→H' dx=some (.xd [])→R H'):∃ a' C' dx' p' vs' i',V.ref a = .ref a'∧Slt H a' C' dx' vs'∧SCls K C'∧Slot1 K C' f p' i'∧R (slH H a' C' dx' (putS i' y vs')) :=
 ⟨a,C,dx,p,vs,i,rfl,h,c,t,q _ (Zmp h o _) (slH_slt ne) (by unfold slH; rw[upd_ne ne,Y8])⟩
theorem ZrY{ta tv:TE}{f:Str}:sSl K ta tv f D σ H=tv σ H fun y H1=>ta σ H1 fun x H2=>∃ a C dx p vs i,x = .ref a∧Slt H2 a C dx vs∧SCls K C∧Slot1 K C f p i∧D.nx σ (slH H2 a C dx (putS i y vs)):=rfl
theorem ZrZ{ta:TE}{f:Str}:tSl K ta f σ H Q=ta σ H fun x H1=>∃ a C dx p vs i v,x = .ref a∧Slt H1 a C dx vs∧SCls K C∧Slot1 K C f p i∧vs[i]? = some (some v)∧Q v H1:=rfl
theorem Slt.keep{H':Hp}{vs:List (Option V)}{b:HO}(h:Slt H a C dx vs)(k:Za S H H')(n1:a∉S)(n2:dx∉S):Slt H' a C dx vs:=by
 rcases h with⟨h1,h2⟩ | ⟨h1,h2⟩
 ·exact .inl ⟨k.obj _ _ n1 h1,h2⟩
 ·exact .inr ⟨k.obj _ _ n1 h1,k.obj _ _ n2 h2⟩
theorem Zp2{sp:Sp}{E:XK}{t:TA}:tMake C sp [] E t σ H Q=t σ H fun vs H1=>∀ x dx,H1 x=none→H1 dx=none→dx≠x→sp (.ref x :: (vs++[])) (upd (upd H1 dx (.own x)) x (.ins C dx [])) (fun v H2=>v = .non∧Q (.ref x) H2) E:=rfl
end
def ZnV(C:YD)(sp:Sp)(E:XK):List V→Hp→VK→Prop:=fun xs H Q=>∃ a dx vs,xs=[.ref a]∧Slt H a C dx vs∧sp [.ref a] H (fun z H'=>∃ n:Nat,z = .int (n:Nat)∧n ≤ 1000000∧Q (.int (n:Nat)) H') E
section
variable {X:Cx} {CX:CXT} {C g:YD} {n:Nat} {sp:Sp} {E:XK}
theorem ZnW(hs:PySem.W.findIn X.K (.ref C) "__len__" = some (some (.ref g))) (hf:PySem.W.isFn X.K (.ref g)=true) (F:FnR X.prog X.w X.K X.mg X.base CX n g sp) (hr:Room (n + 1) X.A) (hx:Passes CX X E):CallR X (.builtin "len") (ZnV C sp E):=by
 intro pins s σ H xs us Q I r h
 obtain⟨a,dx,vs,rfl,ha,q⟩:=h
 obtain⟨u,rfl,ru⟩:=vals1 r
 obtain rfl:u=Value.ref a:=ru
 obtain⟨sl,od,_,J,_⟩:=slt_inst I ha
 refine Calls.call_function_entry kind_len plain_len entry_len (args_len1 _) ?_
 unfold Builtin.«len»
 refine YB (m:=oneArg "len" _) (YJ ?_)
 refine YB (m:=callSpecial? (.ref a) (PySem.Str.ofString "__len__")) (PySem.W.special_fn I.kIn J hs (beq_iff_eq.mp hf) (wpAny_mono (Zk6 (us:=[.ref a]) (vs:=[.ref a]) F hr hx I (.cons rfl .nil) q) (fun w s' z=>?_) fun _ _ x=>x))
 obtain⟨z',H',I',rz,m,rfl,hm,qz⟩:=z
 obtain⟨t,rfl⟩:∃ t,w = .int (m:Nat) t:=rz
 refine YB (wpAny_holding (YJ ?_))
 refine YB (wpAny_letGo ?_)
 show wpAny _ _ (if ((m:Nat):Int) < 0 then _ else _) _ _ _
 rw[if_neg (by omega)]
 show wpAny _ _ (if ((m:Nat):Int) ≥ 2 ^ 63 then _ else _) _ _ _
 rw[if_neg (by omega)]
 exact YB (wpAny_mkInt (YJ ⟨_,rfl,.int (m:Nat),H',I'.tok _,⟨_,rfl⟩,qz⟩))
structure ZqU(P:YE)(w:YF)(K:YA)(mg:Str→Option YG)(base:Heap)(k:Nat)(C:YD)(sp:Sp):Prop where
 ex:∃ g,PySem.W.findIn K (.ref C) "__len__" = some (some (.ref g))∧PySem.W.isFn K (.ref g)=true∧FnR P w K mg base CX0 k g sp
theorem ZqU.cb{k j:Nat}(c:ZqU X.prog X.w X.K X.mg X.base k C sp)(hr:Room j X.A)(hk:k + 1 ≤ j):CallR X (.builtin "len") (ZnV C sp E0):=by
 obtain⟨g,h1,h2,F⟩:=c.ex
 exact ZnW h1 h2 F (hr.mono hk) C8.pass0
end
end M
namespace M
open PySem PySem.Spec PyProof.Rows L2
structure Ztd(P:YE)(w:YF)(K:YA)(mg:Str→Option YG)(base:Heap)(k:Nat)(x:Str)(sp:Sp)(n:Nat)(ks:List Str)(gV:List V→List V→List V):Prop where
 ex:∃ (f:YD) (fd:YC) (ps:List Str) (g:List YG→List YG→List YG),Xl P w K mg base (L2N.CX P w) k f fd ps sp∧mg x=some (.ref f)∧PySem.W.keepIn K (.ref f)=true∧KBn K fd ps n ks g gV
section
variable {X:Cx} {CX:CXT} {k j n:Nat} {f:YD} {fd:YC} {ps ks:List Str} {sp:Sp} {E:L2.St→XK} {x:Str} {p pos:Pos} {e:Expr} {es:List Expr} {kws:List Keyword} {t tk:TA} {g:List YG→List YG→List YG} {gV:List V→List V→List V} {W:WX}
end
structure Zp3(P:YE)(w:YF)(K:YA)(mg:Str→Option YG)(base:Heap)(k:Nat)(C:YD)(m:Str)(sp:Sp):Prop where
 ex:∃ g,SlX.SCls K C∧Meth K C m g∧FnR P w K mg base (L2N.CX P w) k g sp
def ZcB(C:YD)(sp:Sp)(W:WX)(ta:TE)(t:TA):TE:=fun σ H Q=>ta σ H fun x H1=>∃ a dx vs,x = .ref a∧SlX.Slt H1 a C dx vs∧t σ H1 fun ws H2=>sp (x :: ws) H2 Q (WE W σ)
theorem Zln{X:Cx}{W:WX}{k j:Nat}{C:YD}{m:Str}{sp:Sp}{o e:Expr}{es:List Expr}{apos pos:Pos}{ta:TE}{t:TA}{pl:Sem Bool}(c:Zp3 X.prog X.w X.K X.mg X.base k C m sp)(tk:L2N.Takes X W)(hr:Room j X.A)(hk:k ≤ j)(he:PE X o ta)(ha:PA X (e :: es) t)
  (hst:starEach (e :: es) X.env=(false,eval e X.env) :: starEach es X.env:=by rfl) (hpl:(backTo pos (starEach es X.env)).any (·.1)=false:=by rfl)
  (ht:eval (.Call (.Attribute o m apos) (e :: es) [] pos) X.env=(do
   let ov ← eval o X.env
   standAt apos.atName
   let (f,first) ← holding [ov] (getMethod ov m pl)
   callWith pos f first (backTo pos (starEach (e :: es) X.env)) (backToKw pos (keywordEach [] X.env))):=by rfl) :
  PE X (.Call (.Attribute o m apos) (e :: es) [] pos) (ZcB C sp W ta t):=by
 obtain⟨g,c,hm,F⟩:=c.ex
 refine⟨fun pins s σ H Q I h=>?_⟩
 refine PySem.W.methodCall_KW (pl:=pl) (thn (he.run pins s σ H _ I h) fun u s1 ⟨x,H1,I1,rx,a,dx,vs,ex,hsl,q⟩=>?_) ht
 subst ex
 obtain rfl:u=Value.ref a:=rx
 refine SlX.getmethsl_ok I1 hsl c hm ?_
 refine PySem.W.callWith_K (first:=[.ref a]) (h₀:=X.base) I.ok.mod.kin hm.kp (thn (ha.run pos pins s1 σ H1 _ I1 q) fun us s2 ⟨ws,H2,I2,r,q2⟩=>⟨I2.kIn,?_⟩) hst hpl
 refine wpAny_call (codeAny_mono (F X.A X.stack s2 H2 (.ref a :: us) (.ref a :: ws) Q (WE W σ) (hr.mono hk) I2.env0 (.cons rfl r) q2) fun r s' hq=>?_)
 cases r with
 | error e=>exact L2N.passAt tk σ _ _ _ _ _ I2 hq
 | ok fl =>
   cases fl with
   | ret u=>exact I2.after hq
   | next=>exact False.elim hq
   | brk=>exact False.elim hq
   | cont=>exact False.elim hq
end M
namespace PySem
section
variable {prog:YE} {w:YF} {K:Type} [DecidableEq K] {knd:KeyKind prog w K} {A:Around} {E:YG→YH→Prop} {s:YH}
theorem ZhM{d:YD}{kvs:List (K×YG)}{k:K}{key v:YG}{Q:Unit→YH→Prop}(hkey:knd.is k key=true)(hm:s.heap.DictOf knd d kvs)
  (hQ:∀ h',h'.DictOf knd d (stored kvs k v)→Heap.SameBut d s.heap h'→Q () { s with heap:=h' }) (hsz:kvs.length ≤ YK) :
  wpAny (model prog w) A (dictPut d (knd.hash k) key v) Q E s:=by
 obtain⟨o,es,ep,ho,hc,hd,hk,hp,hn⟩:=hm
 have hes:es.size ≤ YK:=by have e1:=hp.length; have e2:es.toList.length=es.size:=by simp
                           omega
 unfold dictPut
 refine YB (wpAny_dictFind_of hkey ho hd hk ?_)
 have hidx:(es.findIdx? fun e=>knd.is k e.key)=kvs.findIdx? fun kv=>decide (kv.1=k):=by
  rw[← hp.findIdx k]; obtain⟨l⟩:=es; simp
 cases hi:es.findIdx? fun e=>knd.is k e.key with
 | some i =>
   refine wpAny_updateDict ho hd (hQ _ ⟨_,_,ep,Heap.get?_update_self _ ho (Obj.isFreed_of_dict (Obj.data_mapDict hd _)),
    hc.mapDict _,Obj.data_mapDict hd _,hk.modify _ _,?_,?_⟩ (Heap.SameBut.update ..))
   ·rw[stored,if_pos (any_of_findIdx_some (hidx ▸ hi))]
    have hl:(es.toList.findIdx? fun e=>knd.is k e.key)=some i:=by rw[← hi]; obtain⟨l⟩:=es; simp
    have:=hp.modify hn hl v
    obtain⟨l⟩:=es
    simpa using this
   ·rw[stored,if_pos (any_of_findIdx_some (hidx ▸ hi)),keys_map_store]; exact hn
 | none =>
   have hnot:k∉kvs.map (·.1):=not_mem_of_findIdx_none (hidx ▸ hi)
   have hany:¬ (kvs.any fun kv=>decide (kv.1=k))=true:=by
    rw[List.any_eq_true]; rintro⟨kv,hkv,he⟩
    exact hnot (Yq.mpr ⟨kv,hkv,of_decide_eq_true he⟩)
   refine wpAny_updateDictKeys (hz:=hes) ho hd (hQ _ ⟨_,_,ep + 1,Heap.get?_update_self _ ho (Obj.isFreed_of_dict (Obj.data_mapDictKeys hd _)),
    hc.mapDictKeys _,Obj.data_mapDictKeys hd _,hk.push hkey _,?_,?_⟩ (Heap.SameBut.update ..))
   ·rw[stored,if_neg hany]
    have:=hp.append hkey (knd.hash k) v
    obtain⟨l⟩:=es
    simpa using this
   ·rw[stored,if_neg hany,Yl,List.nodup_append]
    refine⟨hn,by simp,?_⟩
    intro a ha b hb
    simp only[Yr,List.map_nil,Ye]at hb
    subst hb
    exact fun e=>hnot (e ▸ ha)
theorem ZaD{d o:YD}{kvs more:List (K×YG)}{Q:Unit→YH→Prop}(hdo:d≠o)(hoS:(o == sysModules)=false)
  (hd:s.heap.DictOf knd d kvs) (ho:s.heap.DictOf knd o more)
  (hQ:∀ h',h'.DictOf knd d (merged kvs more)→h'.DictOf knd o more→Heap.SameBut d s.heap h'→Q () { s with heap:=h' })
  (hsz:kvs.length + more.length ≤ YK) :
  wpAny (model prog w) A (mergeMapping d (.ref o) false) Q E s:=by
 obtain⟨od,esd,epd,hod,hcd,hdd,hkd,hpd,hnd⟩:=id hd
 obtain⟨oo,eso,epo,hoo,hco,hdo',hko,hpo,hno⟩:=id ho
 have hlen:more.length=eso.size:=by rw[← hpo.length]; simp
 unfold mergeMapping
 refine YB (wpAny_isInstance ho.typeIs isSubtype_dict_dict ?_)
 dsimp only
 rw[if_pos rfl]
 refine YB (wpAny_specialOf ho.typeIs F.slot_dict_iter.lookup ?_)
 simp only[beq_self_eq_true]
 refine YB (YJ ?_)
 simp only[hoS,Bool.false_eq_true,if_false]
 have loop:wpAny (model prog w) A (do
   let size:=(← dictEntries o).size
   let epoch ← dictEpoch o
   forIn (List.range size) PUnit.unit fun i (_:PUnit)=>(do
     let l' ← dictEntries o
     match l'[i]? with
      | some e=>do
        holding [e.key,e.val] (dictPut d e.hash e.key e.val)
        let ep' ← dictEpoch o
        if (ep' != epoch)=true then do
          (unsupported "dict.changed-during-merge" : Sem PUnit)
          pure (ForInStep.yield PUnit.unit)
         else pure (ForInStep.yield PUnit.unit)
      | _=>do
        (unsupported "dict.changed-during-merge" : Sem PUnit)
        pure (ForInStep.yield PUnit.unit):Sem (ForInStep PUnit))
   pure ()) Q E s:=by
  refine YB (wpAny_dictEntries hoo hdo' ?_)
  refine YB (wpAny_dictEpoch hoo hdo' ?_)
  refine YB ?_
  refine wpAny_forIn_list _
   (fun rest _ s'=>∃ h' i,s' = { s with heap:=h' }∧rest=List.range' i (eso.size - i)∧i ≤ eso.size∧h'.DictOf knd d (merged kvs (more.take i))∧h'.get? o=some oo∧Heap.SameBut d s.heap h')
   _ ?_ ?_ _ _ ⟨s.heap,0,rfl,by rw[List.range_eq_range']; simp,YP _,by simpa[merged]using hd,hoo,Heap.SameBut.refl _ _⟩
  ·rintro x rest b s' ⟨h',i,rfl,hr,hi,hd',hoo',hs'⟩
   have hlt:i < eso.size:=by
    rcases Nat.lt_or_ge i eso.size with h | h
    ·exact h
    ·rw[Nat.sub_eq_zero_of_le h]at hr; simp at hr
   obtain⟨rfl,hrest⟩:x=i∧rest=List.range' (i + 1) (eso.size - (i + 1)):=by
    have e:eso.size - i=(eso.size - (i + 1)) + 1:=by omega
    rw[e,List.range'_succ]at hr
    injection hr with h1 h2
    exact⟨h1,h2⟩
   refine YB (wpAny_dictEntries hoo' hdo' ?_)
   rw[Array.getElem?_eq_getElem hlt]
   obtain⟨kv,hkv⟩:∃ kv,more[x]? = some kv:=⟨more[x]'(by rw[hlen]; exact hlt),Yw _⟩
   obtain⟨k,v⟩:=kv
   obtain⟨hkey,hval⟩:=hpo.get? (e:=eso[x]) (by simp[hlt]) hkv
   obtain⟨k',hkey',hhash⟩:=hko eso[x] (Array.getElem_mem hlt)
   obtain rfl:k'=k:=knd.inj _ _ _ hkey' hkey
   show wpAny _ _ (holding [eso[x].key,eso[x].val] (dictPut d eso[x].hash eso[x].key eso[x].val) >>= _) _ _ _
   rw[hhash,hval]
   have hmx:(merged kvs (more.take x)).length ≤ YK:=by
    have e1:=merged_length_le kvs (more.take x)
    have e2:(more.take x).length ≤ more.length:=by rw[Yu]; omega
    omega
   refine YB (wpAny_holding (ZhM hkey hd' (fun h'' hd'' hs''=>?_) hmx))
   have hoo'':h''.get? o=some oo:=(hs''.2 o (Ne.symm hdo)).trans hoo'
   refine YB (wpAny_dictEpoch hoo'' hdo' ?_)
   rw[if_neg (by simp)]
   exact YJ ⟨h'',x + 1,rfl,hrest,hlt,by rw[merged_take_succ kvs more x (k',v) hkv]; exact hd'',hoo'',hs'.trans hs''⟩
  ·rintro b s' ⟨h',i,rfl,hr,hi,hd',hoo',hs'⟩
   have hin:i=eso.size:=by
    rcases Nat.lt_or_ge i eso.size with h | h
    ·have e:eso.size - i=(eso.size - (i + 1)) + 1:=by omega
     rw[e,List.range'_succ]at hr; exact nomatch hr
    ·exact Nat.le_antisymm hi h
   refine YJ (hQ h' ?_ ⟨oo,eso,epo,hoo',hco,hdo',hko,hpo,hno⟩ hs')
   rw[hin,← hlen,Yt]at hd'; exact hd'
 refine YB (wpAny_dictEntries hod hdd ?_)
 split
 ·refine YB (wpAny_dictEntries hoo hdo' ?_)
  refine YB (wpAny_of_eq (a:=PUnit.unit) ?_ loop)
  rw[← Array.forIn_toList]
  refine forIn_yield_id _ fun e he c=>?_
  obtain⟨k,hkey,_⟩:=hko e (Array.mem_toList_iff.mp he)
  have hb:=knd.byValue k _ hkey
  cases hx:e.key with
  | ref a=>rw[hx]at hb; cases hb
  | _=>rfl
 ·exact loop
end
end PySem
namespace M
open PySem PySem.Spec PyProof.Rows L2
def tDm(ta tk tv:TE):TE:=fun σ H Q=>∀ p,H p=none→ta σ (upd H p (.dK [])) fun x H1=>∃ (a:YD) (kvs:List (Key×V)),x = .ref a∧a≠p∧H1 a=some (.dK kvs)∧H1 p=some (.dK [])∧kvs.length ≤ 1000 ∧
 ∀ p2,upd H1 p (.dK (mergeK [] kvs)) p2=none→tk σ (upd (upd H1 p (.dK (mergeK [] kvs))) p2 (.dK [])) fun y H2=>tv σ H2 fun z H3=>∃ key:Key,y=kV key∧H3 p=some (.dK (mergeK [] kvs))∧H3 p2=some (.dK []) ∧
   Q (.ref p) (upd (upd H3 p2 (.dK (mergeK [] [(key,z)]))) p (.dK (mergeK (mergeK [] kvs) (mergeK [] [(key,z)]))))
theorem Zr0{X:Cx}{pos:Pos}{a k v:Expr}{ta tk tv:TE}(ha:PE X a ta)(hk:PE X k tk)(hv:PE X v tv):PE X (.Dict [none,some k] [a,v] pos) (tDm ta tk tv):=by
 refine⟨fun pins s σ H Q I q=>?_⟩
 rw[arm_eval_Dict]
 refine YB (wpAny_standAt ?_)
 show wpAny _ _ (dictDisplay [(none,do let x ← eval a X.env; standAt pos; pure x),(some (eval k X.env),do let x ← eval v X.env; standAt pos; pure x)]) _ _ s
 have lay:∀ {s:YH} {H:Hp},Inv X pins σ H s→Inv X pins σ (upd H s.heap.objs.size (.dK [])) { s with heap:=s.heap.push { cls:=.type "dict",data:=.dict #[] } }:=fun {s H} I =>
  I.laid (a:=s.heap.objs.size) (o:=.dK []) (h':=s.heap.push { cls:=.type "dict",data:=.dict #[] }) (t':=s.toks) (fun _ _ q=>YL _ q) (YO _) (dk_empty s.heap I.big)
 have slm:YK=16777216:=sizeLine_eq
 unfold dictDisplay
 dsimp only
 rw[List.forIn_cons]
 dsimp only
 refine YB ?_
 refine YB ?_
 refine YB ?_
 rw[if_pos (show([]:List (Sem YG×Sem YG)).isEmpty=true from rfl)]
 refine YJ ?_
 dsimp only
 refine YB (wpAny_alloc ?_)
 have hn:=I.hok.fresh (YO s.heap.objs.size)
 refine YB (wpAny_holding (YB (thn (ha.run pins _ σ _ _ (lay I) (q _ hn)) fun u s1 ⟨x,H1,I1,rx,a,kvs,ex,nap,ea,ep,l1,q1⟩=>YB (wpAny_standAt (YJ ?_)))))
 subst ex
 obtain rfl:u=Value.ref a:=rx
 generalize s.heap.objs.size=p at nap ep q1
 obtain⟨_,hdp,vp,rp,dp⟩:=dk_of I1.hok ep
 cases rp
 obtain⟨_,hda,va,ra,da⟩:=dk_of I1.hok ea
 have lva:va.length=kvs.length:=ra.length.symm
 refine YB (wpAny_onRaise (wpAny_tryCatch (wpAny_onRaise (wpAny_holding (ZaD (Ne.symm nap) hda dp da (fun h2 dp2 da2 sb2=>?_) (by simp; omega))))))
 have hz1:(mergeK [] kvs).length ≤ kvs.length:=by have:=length_mergeK kvs []; simpa using this
 have I2:Inv X pins σ (upd H1 p (.dK (mergeK [] kvs))) { s1 with heap:=h2,toks:=s1.toks } :=
  d_write I1 (by rw[ep]; exact True.intro) sb2 (let ⟨q,_,_,hq,_⟩:=dp2; ⟨q,hq⟩) (dk_new (by omega) hdp (ra.merge .nil) dp2)
 refine YJ ?_
 dsimp only
 rw[List.forIn_cons]
 dsimp only
 refine YB ?_
 rw[if_neg (by simp)]
 refine YJ ?_
 dsimp only
 rw[List.forIn_nil]
 refine YJ ?_
 dsimp only
 refine YB ?_
 rw[if_neg (by simp)]
 have hn2:=I2.hok.fresh (YO h2.objs.size)
 refine YB (wpAny_holding (wpAny_subDict (knd:=mixKind X.prog X.w) (by simp) ?_))
 refine evalPairs_cons (thn (hk.run pins _ σ _ _ (lay I2) (q1 _ hn2)) fun u3 s3 ⟨y,H3,I3,ry,q3⟩=>YB (thn (hv.run pins s3 σ H3 _ I3 q3) fun u4 s4 ⟨z,H4,I4,rz,key,ey,ep4,ep5,q4⟩=>YB (wpAny_standAt (YJ (evalPairs_nil ?_)))))
 subst ey
 obtain⟨_,hd5,v5,r5,d5⟩:=dk_of I4.hok ep5
 cases r5
 refine⟨[(key,u4)],⟨kV_is ry,rfl,True.intro⟩,d5,fun h6 d6 sb6=>?_⟩
 have r1:KV [(key,z)] [(key,u4)]:=.cons ⟨rfl,rz⟩ .nil
 have hz2:(mergeK [] [(key,z)]).length ≤ 1:=by have:=length_mergeK [(key,z)] []; simpa using this
 have I6:Inv X pins σ (upd H4 h2.objs.size (.dK (mergeK [] [(key,z)]))) { s4 with heap:=h6,toks:=s4.toks + 1 } :=
  d_write I4 (by rw[ep5]; exact True.intro) sb6 (let ⟨q,_,_,hq,_⟩:=d6; ⟨q,hq⟩) (dk_new (by omega) hd5 (r1.merge .nil) d6)
 have np:p≠h2.objs.size:=fun z=>by
  have e:upd H1 p (.dK (mergeK [] kvs)) p=some (.dK (mergeK [] kvs)):=Y8
  rw[z]at e
  rw[z]at hn2
  rw[hn2]at e
  cases e
 have ep6:upd H4 h2.objs.size (.dK (mergeK [] [(key,z)])) p=some (.dK (mergeK [] kvs)):=by rw[upd_ne np]; exact ep4
 obtain⟨_,_,vp6,rp6,dp6⟩:=dk_of I6.hok ep6
 have es6:upd H4 h2.objs.size (.dK (mergeK [] [(key,z)])) h2.objs.size=some (.dK (mergeK [] [(key,z)])):=Y8
 obtain⟨_,hd6,vs6,rs6,ds6⟩:=dk_of I6.hok es6
 have l6:vp6.length ≤ 1000:=by rw[← rp6.length]; omega
 have l7:vs6.length ≤ 1:=by rw[← rs6.length]; omega
 refine YB (wpAny_onRaise (wpAny_holding (ZaD (knd:=mixKind X.prog X.w) np hd6 dp6 ds6 (fun h7 dp7 ds7 sb7=>?_) (by omega))))
 refine YJ (YJ ?_)
 have hz3:(mergeK (mergeK [] kvs) (mergeK [] [(key,z)])).length ≤ 1001:=by have:=length_mergeK (mergeK [] [(key,z)]) (mergeK [] kvs); omega
 have I7:=d_write (t':=s4.toks + 1) I6 (by rw[ep6]; exact True.intro) sb7 (let ⟨q,_,_,hq,_⟩:=dp7; ⟨q,hq⟩) (dk_new (by omega) hdp (rs6.merge rp6) dp7)
 exact⟨.ref p,_,I7,rfl,q4⟩
def Zr1(ta tb:TE):TE:=fun σ H Q=>∀ p,H p=none→ta σ (upd H p (.dK [])) fun x H1=>∃ (a:YD) (kvs:List (Key×V)),x = .ref a∧a≠p∧H1 a=some (.dK kvs)∧H1 p=some (.dK [])∧kvs.length ≤ 1000 ∧
 tb σ (upd H1 p (.dK (mergeK [] kvs))) fun y H2=>∃ (b:YD) (kws:List (Key×V)),y = .ref b∧b≠p∧H2 b=some (.dK kws)∧H2 p=some (.dK (mergeK [] kvs))∧kws.length ≤ 1000∧Q (.ref p) (upd H2 p (.dK (mergeK (mergeK [] kvs) kws)))
theorem Zp4{X:Cx}{pos:Pos}{a b:Expr}{ta tb:TE}(ha:PE X a ta)(hb:PE X b tb):PE X (.Dict [none,none] [a,b] pos) (Zr1 ta tb):=by
 refine⟨fun pins s σ H Q I q=>?_⟩
 rw[arm_eval_Dict]
 refine YB (wpAny_standAt ?_)
 show wpAny _ _ (dictDisplay [(none,do let x ← eval a X.env; standAt pos; pure x),(none,do let x ← eval b X.env; standAt pos; pure x)]) _ _ s
 have lay:∀ {s:YH} {H:Hp},Inv X pins σ H s→Inv X pins σ (upd H s.heap.objs.size (.dK [])) { s with heap:=s.heap.push { cls:=.type "dict",data:=.dict #[] } }:=fun {s H} I =>
  I.laid (a:=s.heap.objs.size) (o:=.dK []) (h':=s.heap.push { cls:=.type "dict",data:=.dict #[] }) (t':=s.toks) (fun _ _ q=>YL _ q) (YO _) (dk_empty s.heap I.big)
 have slm:YK=16777216:=sizeLine_eq
 unfold dictDisplay
 dsimp only
 rw[List.forIn_cons]
 dsimp only
 refine YB ?_
 refine YB ?_
 refine YB ?_
 rw[if_pos (show([]:List (Sem YG×Sem YG)).isEmpty=true from rfl)]
 refine YJ ?_
 dsimp only
 refine YB (wpAny_alloc ?_)
 have hn:=I.hok.fresh (YO s.heap.objs.size)
 refine YB (wpAny_holding (YB (thn (ha.run pins _ σ _ _ (lay I) (q _ hn)) fun u s1 ⟨x,H1,I1,rx,a,kvs,ex,nap,ea,ep,l1,q1⟩=>YB (wpAny_standAt (YJ ?_)))))
 subst ex
 obtain rfl:u=Value.ref a:=rx
 generalize s.heap.objs.size=p at nap ep q1
 obtain⟨_,hdp,vp,rp,dp⟩:=dk_of I1.hok ep
 cases rp
 obtain⟨_,hda,va,ra,da⟩:=dk_of I1.hok ea
 have lva:va.length=kvs.length:=ra.length.symm
 refine YB (wpAny_onRaise (wpAny_tryCatch (wpAny_onRaise (wpAny_holding (ZaD (Ne.symm nap) hda dp da (fun h2 dp2 da2 sb2=>?_) (by simp; omega))))))
 have hz1:(mergeK [] kvs).length ≤ kvs.length:=by have:=length_mergeK kvs []; simpa using this
 have I2:Inv X pins σ (upd H1 p (.dK (mergeK [] kvs))) { s1 with heap:=h2,toks:=s1.toks } :=
  d_write I1 (by rw[ep]; exact True.intro) sb2 (let ⟨q,_,_,hq,_⟩:=dp2; ⟨q,hq⟩) (dk_new (by omega) hdp (ra.merge .nil) dp2)
 refine YJ ?_
 dsimp only
 rw[List.forIn_cons]
 dsimp only
 refine YB ?_
 refine YB ?_
 rw[if_pos (show([]:List (Sem YG×Sem YG)).isEmpty=true from rfl)]
 refine YJ ?_
 dsimp only
 refine YB (YJ ?_)
 refine YB (wpAny_holding (YB (thn (hb.run pins _ σ _ _ I2 q1) fun u3 s3 ⟨y,H3,I3,ry,b,kws,ey,nbp,eb,ep3,l3,q3⟩=>YB (wpAny_standAt (YJ ?_)))))
 subst ey
 obtain rfl:u3=Value.ref b:=ry
 obtain⟨_,hd3,vp3,rp3,dp3⟩:=dk_of I3.hok ep3
 obtain⟨_,hdb,vb,rb,db⟩:=dk_of I3.hok eb
 have lvb:vb.length=kws.length:=rb.length.symm
 have lvp:vp3.length=(mergeK [] kvs).length:=rp3.length.symm
 refine YB (wpAny_onRaise (wpAny_tryCatch (wpAny_onRaise (wpAny_holding (ZaD (Ne.symm nbp) hdb dp3 db (fun h7 dp7 ds7 sb7=>?_) (by omega))))))
 have hz3:(mergeK (mergeK [] kvs) kws).length ≤ 2000:=by have:=length_mergeK kws (mergeK [] kvs); omega
 have I7:Inv X pins σ (upd H3 p (.dK (mergeK (mergeK [] kvs) kws))) { s3 with heap:=h7,toks:=s3.toks } :=
  d_write (t':=s3.toks) I3 (by rw[ep3]; exact True.intro) sb7 (let ⟨q,_,_,hq,_⟩:=dp7; ⟨q,hq⟩) (dk_new (by omega) hd3 (rb.merge rp3) dp7)
 refine YJ ?_
 dsimp only
 rw[List.forIn_nil]
 refine YJ ?_
 dsimp only
 refine YB ?_
 rw[if_pos (show([]:List (Sem YG×Sem YG)).isEmpty=true from rfl)]
 refine YJ ?_
 exact YJ ⟨.ref p,_,I7,rfl,q3⟩
end M
namespace M
open PySem PySem.W PySem.Spec PyProof.Rows L2
end M
namespace M
open PySem PySem.Spec PyProof.Rows L2 L2H SlX
section
variable {w:YF} {K:YA} {mg:Str→Option YG} {base:Heap} {fI C:YD} {fd:YC} {B newId i:String} {bmB:List YG}
theorem ZfA(D:Zmd PP K "UnknownModule.__init__" Zal fI C fd) (T:Zpv K C fI B newId i bmB ["module"]) (hs:mg "super" = none):Xl PP w K mg base CX0 (0 + 1) fI fd ["self", "module"] (Zim C ["module"]) :=
 ZnA ⟨rfl,rfl,rfl,by decide +kernel,rfl,by decide +kernel,by decide +kernel,by decide +kernel⟩ D T ⟨rfl,rfl,rfl,⟨_,rfl,rfl⟩,hs,by decide +kernel⟩ rfl (fun env=>⟨_,rfl⟩) rfl (by decide) (by decide)
theorem ZfB{P:YE}(D:Zmd P K "UnknownModule.__init__" Zal fI C fd) (nd:ZqQ K fI=true) (s:YH) (u:YG) (ws:List YG) (hl:ws.length=(["module"]:List Str).length):BindsTo s fd ⟨[u],(["module"]:List Str).zip ws⟩ ((("self" : Str) :: ["module"]).zip (u :: ws)):=by
 obtain⟨oc,od,dV,kV,doc,pm,an,cdv,ct,osl,cc,cl,cld,csl,cda,ccl,cdd,vs,ccs,file,tf,rfl,lk,_⟩:=D.ex
 unfold ZqQ at nd
 rw[lk]at nd
 have nd:dV = .none:=of_decide_eq_true nd
 subst nd
 match ws,hl with
 | [a],_=>exact .of_eq rfl
end
end M
namespace M
open PySem L2
structure Drw(H:Hp)(h c:YD):Prop where
 ex:∃ (st ix:Int) (cells:List Int),H h=some (.lst [.int st,.ref c,.int ix])∧H c=some (.lst (cells.map V.int))∧0 ≤ st∧st < 2147483647∧0 ≤ ix∧cells.length ≤ 63
 ne:h≠c
theorem Drw.keep{H H':Hp}{h c:YD}(d:Drw H h c){S:List YD}(k:Za S H H')(n1:h∉S)(n2:c∉S):Drw H' h c:=by
 obtain⟨st,ix,cells,h1,h2,r⟩:=d.ex
 exact⟨⟨st,ix,cells,k.obj _ _ n1 h1,k.obj _ _ n2 h2,r⟩,d.ne⟩
theorem Drw.k0{H H':Hp}{h c:YD}(d:Drw H h c)(k:Za [] H H'):Drw H' h c:=d.keep k Ya Ya
def Zd0(K:YA)  : TS:=(Y9 (Xk (tOp (rIx K) (tOp (rAdd K) (tOp (rIx K) (YS 0) (tC (.int 1))) (Zbo (YT (tC (.int 0)) YZ))) (tOp Zi4 (tCB Ze3 (YT (tOp (rIx K) (YS 0) (tC (.int 2))) YZ)) (tCB rMax2 (YT (tC (.int 1)) (YT (tCB (rLen K) (YT (tOp (rIx K) (YS 0) (tC (.int 1))) YZ)) YZ))))) (Y4 2))
 (Y9 (Xi (Xc (tOp ZsD (YS 2) (tOp Znj (tC (.int 10)) (tC (.int 18))))) (Y9 (Xk (tOp Zni (YS 2) (YS 1)) (gSub (tOp (rIx K) (YS 0) (tC (.int 1))) (tOp Zi4 (tCB Ze3 (YT (tOp (rIx K) (YS 0) (tC (.int 2))) YZ)) (tCB (rLen K) (YT (tOp (rIx K) (YS 0) (tC (.int 1))) YZ))) rSetL))
 (Xh (tOp Zi4 (tCB Ze3 (YT (YS 2) YZ)) (YS 1)))) Xo)
 (Y9 (Xk (tOp Zi4 (tCB Ze3 (YT (tOp (rAdd K) (tOp (rAdd K) (tOp Zl7 (tOp (rIx K) (YS 0) (tC (.int 0))) (tC (.int 48271))) (tOp Zl7 (YS 2) (tC (.int 69621)))) (tC (.int 11))) YZ)) (tC (.int 2147483647))) (gSub (YS 0) (tC (.int 0)) rSetL))
 (Y9 (Xk (tOp (rAdd K) (tOp (rIx K) (YS 0) (tC (.int 2))) (tC (.int 1))) (gSub (YS 0) (tC (.int 2)) rSetL))
 (Xh (tOp Zi4 (tCB Ze3 (YT (tOp Zni (tOp (rIx K) (YS 0) (tC (.int 0))) (tC (.int 7))) YZ)) (YS 1)))))))
def Zkv:List Str:=["_law_h", "_law_cap", "_law_cell"]
def Zb(K:YA):Sp:=fun vs H Q _=>∃ h c cap,vs=[.ref h,.int cap]∧Drw H h c∧0 < cap∧cap < 2 ^ 64∧∀ v H',0 ≤ v→v < cap→Za [h,c] H H'→Drw H' h c→Q (.int v) H'
theorem Ziz{α : Type}{xs:List α}{i:Int}(h0 : 0 ≤ i)(h:i < xs.length):∃ v,xs[i.toNat]? = some v∧atI xs i=some v:=by
 have e:i=((i.toNat:Nat):Int):=by omega
 have hl:i.toNat < xs.length:=by omega
 refine⟨xs[i.toNat],by simp[hl],?_⟩
 conv=>lhs; rw[e]
 exact atI_nat (by simp[hl])
theorem ZhN{K:YA}(vs:List V)(H:Hp)(Q:VK)(E:XK)(h:Zb K vs H Q E):Zd0 K { nx:=fun _ H'=>Q .non H',rt:=Q } (start Zkv vs) H:=by
 obtain⟨h,c,cap,rfl,D,c0,c1,q⟩:=h
 show Zd0 K _ [some (.ref h),some (.int cap),none] H
 unfold Zd0
 have sl:=ZaF
 obtain⟨st,ix,cells,h1,h2,hs0,hs1,hi0,hl⟩:=D.ex
 row_readAll go
 refine ZaA (SqL.of h1) rfl ?_
 refine Zbg (by row_readAll ln) fun p1 H1 hp1 k1 h3=>?_
 refine ZkR (k1.obj _ _ Ya h2) h3 (by simp; omega) fun p2 H2 hp2 k2 h4=>?_
 have g1:=k2.obj _ _ Ya (k1.obj _ _ Ya h1)
 have g2:=k2.obj _ _ Ya (k1.obj _ _ Ya h2)
 refine ZaA (SqL.of g1) rfl ?_
 row_readAll go
 refine ZaA (SqL.of g1) rfl ?_
 refine ZcN (SqL.of g2) ?_
 row_readAll go
 have em:∃ m:Int,(if ((List.map V.int cells).length:Int) > 1 then((List.map V.int cells).length:Int)else 1)=m∧0 < m∧m ≤ cells.length + 1∧(0 < cells.length→m=cells.length):=by
  refine⟨_,rfl,?_⟩
  simp only[Yb]
  split <;> omega
 obtain⟨m,em,m0,m1,m2⟩:=em
 rw[em]
 refine⟨m0,?_⟩
 have hr0:=Int.emod_nonneg ix (show m≠0 by omega)
 have hr1:=Int.emod_lt_of_pos ix m0
 have el:List.map V.int cells++[V.int 0]=(cells++[0]).map V.int:=by simp
 rw[el]at h4
 obtain⟨v,hv,ha⟩:=Ziz (xs:=(cells++[0]).map V.int) hr0 (by simp; omega)
 rw[Ym]at hv
 cases hz:(cells++[0])[(ix % m).toNat]? with
 | none=>rw[hz]at hv; cases hv
 | some z =>
 rw[hz]at hv
 cases hv
 refine ZaA (SqL.of h4) ha ?_
 row_readAll go
 refine⟨⟨by decide,by decide,by decide⟩,?_⟩
 have k3:KC [h,c] H H2:=⟨(k1.trans k2).nil⟩
 refine Zbx (fun hc=>?_) (fun hc=>?_)
 ·have hc':(10:Int) ^ 18 ≤ z:=hc
  have hpos : 0 < cells.length:=by
   rcases Nat.eq_zero_or_pos cells.length with e | e
   ·have e2:cells=[]:=List.eq_nil_of_length_eq_zero e
    subst e2
    have e3:(ix % m).toNat=0:=by simp at m1; omega
    rw[e3]at hz
    simp at hz
    omega
   ·exact e
  row_readAll go
  refine⟨wide_div c0 (b:=64) (by omega) (by decide) (by decide),?_⟩
  refine ZaA (SqL.of g1) rfl ?_
  refine ZaA (SqL.of g1) rfl ?_
  row_readAll go
  refine ZaA (SqL.of g1) rfl ?_
  refine ZcN (SqL.of g2) ?_
  row_readAll go
  have e5:((List.map V.int cells).length:Int)=m:=by rw[Yb,m2 hpos]
  rw[e5]
  refine⟨m0,?_⟩
  refine ZkS (j:=(ix % m).toNat) g2 ?_ fun H3 k4 g3=>?_
  ·rw[← Yb (f:=V.int),]at m2
   unfold ixN
   rw[if_pos hr0,if_pos (by rw[e5]; exact hr1)]
  row_readAll go
  refine⟨c0,?_⟩
  refine q _ H3 (Int.emod_nonneg _ (by omega)) (Int.emod_lt_of_pos _ c0) (k3.k.step k4 (by simp)) ⟨⟨st,ix,cells.set (ix % m).toNat (z / cap),k4.obj _ _ (by simp[D.ne]) g1,by rw[g3]; simp[List.map_set],hs0,hs1,hi0,by simpa using hl⟩,D.ne⟩
 ·row_readAll go
  refine ZaA (SqL.of g1) rfl ?_
  row_readAll go
  refine⟨.inr ⟨by decide,by decide⟩,.inr ⟨by decide,by decide⟩,by decide,?_⟩
  refine ZkS (j:=0) g1 rfl fun H3 k4 g3=>?_
  row_readAll go
  refine ZaA (SqL.of g3) rfl ?_
  row_readAll go
  refine ZkS (j:=2) g3 rfl fun H4 k5 g4=>?_
  row_readAll go
  refine ZaA (SqL.of g4) rfl ?_
  row_readAll go
  refine⟨⟨by decide,by decide⟩,c0,?_⟩
  refine q _ H4 (Int.emod_nonneg _ (by omega)) (Int.emod_lt_of_pos _ c0) ((k3.k.step k4 (by simp)).step k5 (by simp)) ⟨⟨_,_,cells,g4,k5.obj _ _ (by simp[Ne.symm D.ne]) (k4.obj _ _ (by simp[Ne.symm D.ne]) g2),Int.emod_nonneg _ (by omega),Int.emod_lt_of_pos _ (by omega),by omega,hl⟩,D.ne⟩
end M
namespace M
open PySem PySem.Spec L2
def okN(x:Str):Prop:=1 ≤ x.length∧x.length ≤ 8∧∀ c∈x.cps.toList,97 ≤ c∧c ≤ 122
def Zgg(x:Str):Bool:=decide (1 ≤ x.length) && decide (x.length ≤ 8) && x.cps.toList.all fun c=>decide (97 ≤ c) && decide (c ≤ 122)
theorem Zj2{x:Str}(h:Zgg x=true):okN x:=by
 unfold Zgg at h
 simp only[Bool.and_eq_true,decide_eq_true_eq,List.all_eq_true]at h
 exact⟨h.1.1,h.1.2,h.2⟩
theorem join_eq(sep:Str)(l:List Str):Txt.join sep l=Str.join sep l:=eq_of_beq (PyProof.Rows.join_plain_closes sep l)
theorem Zkw(l:List Nat):Txt.join (YN "") (l.map fun k=>(⟨#[k]⟩:Str))=⟨l.toArray⟩:=by
 rw[join_eq,show YN "" = ⟨#[]⟩by decide +kernel]
 exact PyProof.Rows.join_ones l
theorem okN.lay{x:Str}(h:okN x):PyData.canLay0 (.str x)=true:=by
 simp only[PyData.canLay0]
 unfold PySem.PyData.strOk
 rw[Array.all_eq_true_iff_forall_mem]
 intro c hc
 have:=h.2.2 c (by simpa using hc)
 simp only[decide_eq_true_eq]
 omega
def okI(i:Int):Prop:=i.natAbs < 10 ^ 60
theorem okI.log{i:Int}(h:okI i):i.natAbs.log2 < 200:=by
 unfold okI at h
 rcases Nat.eq_zero_or_pos i.natAbs with e | e
 ·rw[e]; decide
 ·exact(Nat.log2_lt (by omega)).mpr (Nat.lt_of_lt_of_le h (by decide))
def Ex.wf:Nat→Ex→Prop
 | _,.int i=>okI i
 | _,.nm n=>okN n
 | _,.of n a=>okN n∧okN a
 | 0,.bin ..=>False
 | d + 1,.bin _ l r=>l.wf d∧r.wf d
theorem Ex.wf.mono:∀ {e:Ex} {d d':Nat},e.wf d→d ≤ d'→e.wf d'
 | .int _,d,d',h,_=>by cases d <;> cases d' <;> exact h
 | .nm _,d,d',h,_=>by cases d <;> cases d' <;> exact h
 | .of _ _,d,d',h,_=>by cases d <;> cases d' <;> exact h
 | .bin _ l r,0,_,h,_=>by exact h.elim
 | .bin _ l r,d + 1,0,_,hd=>by omega
 | .bin _ l r,d + 1,d' + 1,h,hd=>by
   simp only[Ex.wf]at h ⊢
   exact⟨h.1.mono (by omega),h.2.mono (by omega)⟩
theorem Ex.wf.dep:∀ {e:Ex} {d:Nat},e.wf d→e.dep ≤ d
 | .int _,_,_=>YP _
 | .nm _,_,_=>YP _
 | .of _ _,_,_=>YP _
 | .bin _ l r,0,h=>by exact h.elim
 | .bin _ l r,d + 1,h=>by
   simp only[Ex.wf]at h
   have h1:=h.1.dep
   have h2:=h.2.dep
   simp only[Ex.dep]; omega
theorem Ex.wf.fits:∀ {e:Ex} {d:Nat},e.wf d→e.fits
 | .int i,d,h=>by
   have h2:okI i:=by cases d <;> exact h
   have:=h2.log
   simp only[Ex.fits]; omega
 | .nm _,_,_=>by simp only[Ex.fits]
 | .of _ _,_,_=>by simp only[Ex.fits]
 | .bin _ l r,0,h=>by exact h.elim
 | .bin _ l r,d + 1,h=>by
   simp only[Ex.wf]at h
   simp only[Ex.fits]
   exact⟨h.1.fits,h.2.fits⟩
theorem ZiA{i:Int}(h:okI i):(YN (toString i)).length ≤ 61:=by
 have key:∀ n:Nat,n < 10 ^ 60→(toString n).toList.length ≤ 60:=fun n hn=>by
  show(Nat.repr n).toList.length ≤ 60
  unfold Nat.repr Nat.toDigits
  rw[String.toList_ofList]
  have:=PySem.digitsCore_len_pow 10 (by decide) 60 (n + 1) n [] (by decide) hn
  simpa using this
 have el:∀ s:String,(YN s).length=s.toList.length:=fun s=>by
  rw[Str.ofString_eq_toList]; simp[Str.length]
 rw[el]
 unfold okI at h
 cases i with
 | ofNat n =>
   have:=key n h
   show(toString n).toList.length ≤ 61
   omega
 | negSucc n =>
   have:=key (n + 1) h
   show("-" ++ toString (n + 1)).toList.length ≤ 61
   rw[String.toList_append,Yc]
   have e1:("-" : String).toList.length=1:=by decide
   omega
def Zkx:Nat→Nat
 | 0=>61
 | d + 1=>2 * Zkx d + 5
theorem Zgh:∀ d,61 ≤ Zkx d
 | 0=>YO _
 | d + 1=>by have:=Zgh d; simp only[Zkx]; omega
theorem Ex.wf.len:∀ {e:Ex} {d:Nat},e.wf d→e.txt.length ≤ Zkx d
 | .int i,d,h=>by
   have h2:okI i:=by cases d <;> exact h
   have:=ZiA h2
   have:=Zgh d
   simp only[Ex.txt]; omega
 | .nm n,d,h=>by
   have h2:okN n:=by cases d <;> exact h
   have:=h2.2.1
   have:=Zgh d
   simp only[Ex.txt]; omega
 | .of n a,d,h=>by
   have h2:okN n∧okN a:=by cases d <;> exact h
   have:=h2.1.2.1
   have:=h2.2.2.1
   have:=Zgh d
   have e1:(YN ".").length=1:=by decide +kernel
   simp only[Ex.txt,str_len,e1]; omega
 | .bin s l r,0,h=>by exact h.elim
 | .bin s l r,d + 1,h=>by
   simp only[Ex.wf]at h
   have h1:=h.1.len
   have h2:=h.2.len
   have e1:(YN "(").length=1:=by decide +kernel
   have e2:(YN ")").length=1:=by decide +kernel
   have e3:(YN (if s=true then " + " else " < ")).length=3:=by cases s <;> decide +kernel
   simp only[Ex.txt,str_len,e1,e2,e3,Zkx]; omega
theorem Ex.wf.lay:∀ {e:Ex} {d:Nat},e.wf d→e.d.canLay0=true∧e.d.depth ≤ d + 1
 | .int i,d,h=>by simp[Ex.d,PyData.canLay0,PyData.depth]
 | .nm n,d,h=>by
   have h2:okN n:=by cases d <;> exact h
   have:=h2.lay
   simp only[PyData.canLay0]at this
   simp[Ex.d,PyData.canLay0,PyData.canLayAll0,PyData.depth,PyData.depthAll,this]
   decide +kernel
 | .of n a,d,h=>by
   have h2:okN n∧okN a:=by cases d <;> exact h
   have h3:=h2.1.lay
   have h4:=h2.2.lay
   simp only[PyData.canLay0]at h3 h4
   simp[Ex.d,PyData.canLay0,PyData.canLayAll0,PyData.depth,PyData.depthAll,h3,h4]
   decide +kernel
 | .bin s l r,0,h=>by exact h.elim
 | .bin s l r,d + 1,h=>by
   simp only[Ex.wf]at h
   obtain⟨h1,h2⟩:=h.1.lay
   obtain⟨h3,h4⟩:=h.2.lay
   have e:PyData.strOk (opW s)=true:=by cases s <;> decide +kernel
   simp only[Ex.d,PyData.canLay0,PyData.canLayAll0,PyData.depth,PyData.depthAll,h1,h3,e]
   simp; omega
def kinds:List Str:=["absent", "any", "kind", "missing", "raised", "unbound"]
mutual
def Stm.wf:Stm→Prop
 | .set n e=>okN n∧e.wf 3
 | .del n=>okN n
 | .shw e=>e.wf 3
 | .call e=>e.wf 3
 | .raise=>True
 | .imp m n=>okN m∧okN n
 | .frm m w n=>okN m∧okN w∧okN n
 | .star m=>okN m
 | .fn n b=>okN n∧wfL b
 | .ite e b o=>e.wf 3∧wfL b∧wfL o
 | .tri k b h=>k∈kinds∧wfL b∧wfL h
def wfL:List Stm→Prop
 | []=>True
 | s :: r=>s.wf∧wfL r
end
theorem ZfC:∀ b:List Stm,wfL b↔∀ s∈b,s.wf
 | []=>by simp[wfL]
 | s :: r=>by simp[wfL,ZfC r]
mutual
theorem Stm.wf.fits:∀ {s:Stm},s.wf→s.fits
 | .set n e,h=>by simp only[Stm.wf]at h; simp only[Stm.fits]; exact⟨h.2.fits,by have:=h.2.dep; omega⟩
 | .del n,_=>by simp only[Stm.fits]
 | .shw e,h=>by simp only[Stm.wf]at h; simp only[Stm.fits]; exact⟨h.fits,by have:=h.dep; omega⟩
 | .call e,h=>by simp only[Stm.wf]at h; simp only[Stm.fits]; exact⟨h.fits,by have:=h.dep; omega⟩
 | .raise,_=>by simp only[Stm.fits]
 | .imp m n,_=>by simp only[Stm.fits]
 | .frm m w n,_=>by simp only[Stm.fits]
 | .star m,_=>by simp only[Stm.fits]
 | .fn n b,h=>by simp only[Stm.wf]at h; simp only[Stm.fits]; exact wfL_fits h.2
 | .ite e b o,h=>by simp only[Stm.wf]at h; simp only[Stm.fits]; exact⟨⟨h.1.fits,by have:=h.1.dep; omega⟩,wfL_fits h.2.1,wfL_fits h.2.2⟩
 | .tri k b o,h=>by simp only[Stm.wf]at h; simp only[Stm.fits]; exact⟨wfL_fits h.2.1,wfL_fits h.2.2⟩
theorem wfL_fits:∀ {b:List Stm},wfL b→fitsL b
 | [],_=>by simp only[fitsL]
 | s :: r,h=>by simp only[wfL]at h; simp only[fitsL]; exact⟨h.1.fits,wfL_fits h.2⟩
end
theorem Zlo{k:Str}(h:k∈kinds):PyData.strOk k=true:=by
 unfold kinds at h
 simp only[Yn,Ya,or_false]at h
 rcases h with rfl | rfl | rfl | rfl | rfl | rfl <;> decide +kernel
theorem Zlp{k:Str}(h:k∈kinds):k.length ≤ 7:=by
 unfold kinds at h
 simp only[Yn,Ya,or_false]at h
 rcases h with rfl | rfl | rfl | rfl | rfl | rfl <;> decide +kernel
theorem okN.ok{x:Str}(h:okN x):PyData.strOk x=true:=by have:=h.lay; simpa only[PyData.canLay0]using this
mutual
theorem Stm.wf.lay:∀ {s:Stm},s.wf→s.d.canLay0=true∧s.d.depth ≤ 2 * s.dep + 6
 | .set n e,h=>by
   simp only[Stm.wf]at h
   obtain⟨h1,h2⟩:=h.2.lay
   have h3:=h.1.ok
   have e:PyData.strOk "set" = true:=by decide +kernel
   simp only[Stm.d,Stm.dep,PyData.canLay0,PyData.canLayAll0,PyData.depth,PyData.depthAll,h1,h3,e]; simp; omega
 | .del n,h=>by
   simp only[Stm.wf]at h
   have h3:=h.ok
   have e:PyData.strOk "del" = true:=by decide +kernel
   simp only[Stm.d,Stm.dep,PyData.canLay0,PyData.canLayAll0,PyData.depth,PyData.depthAll,h3,e]; simp
 | .shw e,h=>by
   simp only[Stm.wf]at h
   obtain⟨h1,h2⟩:=h.lay
   have e:PyData.strOk "show" = true:=by decide +kernel
   simp only[Stm.d,Stm.dep,PyData.canLay0,PyData.canLayAll0,PyData.depth,PyData.depthAll,h1,e]; simp; omega
 | .call e,h=>by
   simp only[Stm.wf]at h
   obtain⟨h1,h2⟩:=h.lay
   have e:PyData.strOk "call" = true:=by decide +kernel
   simp only[Stm.d,Stm.dep,PyData.canLay0,PyData.canLayAll0,PyData.depth,PyData.depthAll,h1,e]; simp; omega
 | .raise,_=>by
   have e:PyData.strOk "raise" = true:=by decide +kernel
   simp only[Stm.d,Stm.dep,PyData.canLay0,PyData.canLayAll0,PyData.depth,PyData.depthAll,e]; simp
 | .imp m n,h=>by
   simp only[Stm.wf]at h
   have h3:=h.1.ok
   have h4:=h.2.ok
   have e:PyData.strOk "\x69mport" = true:=by decide +kernel
   simp only[Stm.d,Stm.dep,PyData.canLay0,PyData.canLayAll0,PyData.depth,PyData.depthAll,h3,h4,e]; simp
 | .frm m w n,h=>by
   simp only[Stm.wf]at h
   have h3:=h.1.ok
   have h4:=h.2.1.ok
   have h5:=h.2.2.ok
   have e:PyData.strOk "from" = true:=by decide +kernel
   simp only[Stm.d,Stm.dep,PyData.canLay0,PyData.canLayAll0,PyData.depth,PyData.depthAll,h3,h4,h5,e]; simp
 | .star m,h=>by
   simp only[Stm.wf]at h
   have h3:=h.ok
   have e:PyData.strOk "star" = true:=by decide +kernel
   simp only[Stm.d,Stm.dep,PyData.canLay0,PyData.canLayAll0,PyData.depth,PyData.depthAll,h3,e]; simp
 | .fn n b,h=>by
   simp only[Stm.wf]at h
   have h3:=h.1.ok
   obtain⟨h1,h2⟩:=wfL_lay h.2
   have e:PyData.strOk "def" = true:=by decide +kernel
   simp only[Stm.d,Stm.dep,PyData.canLay0,PyData.canLayAll0,PyData.depth,PyData.depthAll,h1,h3,e]; simp; omega
 | .ite e b o,h=>by
   simp only[Stm.wf]at h
   obtain⟨h5,h6⟩:=h.1.lay
   obtain⟨h1,h2⟩:=wfL_lay h.2.1
   obtain⟨h3,h4⟩:=wfL_lay h.2.2
   have e:PyData.strOk "if" = true:=by decide +kernel
   simp only[Stm.d,Stm.dep,PyData.canLay0,PyData.canLayAll0,PyData.depth,PyData.depthAll,h1,h3,h5,e]; simp; omega
 | .tri k b o,h=>by
   simp only[Stm.wf]at h
   have h5:=Zlo h.1
   obtain⟨h1,h2⟩:=wfL_lay h.2.1
   obtain⟨h3,h4⟩:=wfL_lay h.2.2
   have e:PyData.strOk "try" = true:=by decide +kernel
   simp only[Stm.d,Stm.dep,PyData.canLay0,PyData.canLayAll0,PyData.depth,PyData.depthAll,h1,h3,h5,e]; simp; omega
theorem wfL_lay:∀ {b:List Stm},wfL b→PyData.canLayAll0 (blkD b)=true∧PyData.depthAll (blkD b) ≤ 2 * depL b + 6
 | [],_=>by simp[blkD,PyData.canLayAll0,PyData.depthAll]
 | s :: r,h=>by
   simp only[wfL]at h
   obtain⟨h1,h2⟩:=h.1.lay
   obtain⟨h3,h4⟩:=wfL_lay h.2
   simp only[blkD,PyData.canLayAll0,PyData.depthAll,depL,h1,h3]; simp; omega
end
theorem ZhO{b:List Stm}(h:wfL b)(d:depL b ≤ 20):Zij b:=by
 obtain⟨h1,h2⟩:=wfL_lay h
 refine(Zaz _).mpr ?_
 simp only[PyData.canLay0,PyData.depth]
 exact⟨h1,by omega⟩
theorem Stm.wf.headLen{s:Stm}(h:s.wf):s.head.length ≤ 600:=by
 have L:Zkx 3=523:=by decide
 cases s with
 | set n e=>simp only[Stm.wf]at h; have h1:=h.1.2.1; have h2:=h.2.len; rw[L]at h2; have e1:(YN "set ").length=4:=by decide +kernel
            have e2:(YN " = ").length=3:=by decide +kernel
            simp only[Stm.head,str_len,e1,e2]; omega
 | del n=>simp only[Stm.wf]at h; have h1:=h.2.1; have e1:(YN "del ").length=4:=by decide +kernel
          simp only[Stm.head,str_len,e1]; omega
 | shw e=>simp only[Stm.wf]at h; have h2:=h.len; rw[L]at h2; have e1:(YN "show").length=4:=by decide +kernel
          have e2:(YN " ").length=1:=by decide +kernel
          simp only[Stm.head,str_len,e1,e2]; omega
 | call e=>simp only[Stm.wf]at h; have h2:=h.len; rw[L]at h2; have e1:(YN "call").length=4:=by decide +kernel
           have e2:(YN " ").length=1:=by decide +kernel
           simp only[Stm.head,str_len,e1,e2]; omega
 | raise=>have e1:(YN "raise").length=5:=by decide +kernel
          simp only[Stm.head,e1]; omega
 | imp m n=>simp only[Stm.wf]at h; have h1:=h.1.2.1; have h2:=h.2.2.1; have e1:(YN "\x69mport ").length=7:=by decide +kernel
            have e2:(YN " as ").length=4:=by decide +kernel
            simp only[Stm.head,str_len,e1,e2]; omega
 | frm m w n=>simp only[Stm.wf]at h; have h1:=h.1.2.1; have h2:=h.2.1.2.1; have h3:=h.2.2.2.1; have e1:(YN "from ").length=5:=by decide +kernel
              have e2:(YN " as ").length=4:=by decide +kernel
              have e3:(YN " \x69mport ").length=8:=by decide +kernel
              simp only[Stm.head,str_len,e1,e2,e3]; omega
 | star m=>simp only[Stm.wf]at h; have h1:=h.2.1; have e1:(YN "from ").length=5:=by decide +kernel
           have e2:(YN " \x69mport *").length=9:=by decide +kernel
           simp only[Stm.head,str_len,e1,e2]; omega
 | fn n b=>simp only[Stm.wf]at h; have h1:=h.1.2.1; have e1:(YN "def").length=3:=by decide +kernel
           have e2:(YN " ").length=1:=by decide +kernel
           have e3:(YN ":").length=1:=by decide +kernel
           simp only[Stm.head,str_len,e1,e2,e3]; omega
 | ite e b o=>simp only[Stm.wf]at h; have h2:=h.1.len; rw[L]at h2; have e1:(YN "if ").length=3:=by decide +kernel
              have e3:(YN ":").length=1:=by decide +kernel
              simp only[Stm.head,str_len,e1,e3]; omega
 | tri k b o=>simp only[Stm.wf]at h; have h1:=Zlp h.1; have e1:(YN "try").length=3:=by decide +kernel
              have e2:(YN " ").length=1:=by decide +kernel
              have e3:(YN ":").length=1:=by decide +kernel
              simp only[Stm.head,str_len,e1,e2,e3]; omega
mutual
theorem Stm.wf.lineLen:∀ {s:Stm} (ind:Str),s.wf→∀ l∈s.lines ind,l.length ≤ ind.length + 2 * s.dep + 600
 | .set n e,ind,h,l,m=>by have:=h.headLen; simp only[Stm.lines,Ye]at m; subst m; simp only[str_len]; omega
 | .del n,ind,h,l,m=>by have:=h.headLen; simp only[Stm.lines,Ye]at m; subst m; simp only[str_len]; omega
 | .shw e,ind,h,l,m=>by have:=h.headLen; simp only[Stm.lines,Ye]at m; subst m; simp only[str_len]; omega
 | .call e,ind,h,l,m=>by have:=h.headLen; simp only[Stm.lines,Ye]at m; subst m; simp only[str_len]; omega
 | .raise,ind,h,l,m=>by have:=h.headLen; simp only[Stm.lines,Ye]at m; subst m; simp only[str_len]; omega
 | .imp a b,ind,h,l,m=>by have:=h.headLen; simp only[Stm.lines,Ye]at m; subst m; simp only[str_len]; omega
 | .frm a b c,ind,h,l,m=>by have:=h.headLen; simp only[Stm.lines,Ye]at m; subst m; simp only[str_len]; omega
 | .star a,ind,h,l,m=>by have:=h.headLen; simp only[Stm.lines,Ye]at m; subst m; simp only[str_len]; omega
 | .fn n b,ind,h,l,m=>by
   have h0:=h.headLen
   simp only[Stm.wf]at h
   have e2:(YN "  ").length=2:=by decide +kernel
   simp only[Stm.lines,Yh,Ye]at m
   simp only[Stm.dep]
   rcases m with rfl | m
   ·simp only[str_len]; omega
   ·have:=innerLen (ind ++ "  ") h.2 l m
    rw[str_len,e2]at this; omega
 | .ite e b o,ind,h,l,m=>by
   have h0:=h.headLen
   simp only[Stm.wf]at h
   have e2:(YN "  ").length=2:=by decide +kernel
   have e3:(YN "else:").length=5:=by decide +kernel
   simp only[Stm.lines,Yh,Ye]at m
   simp only[Stm.dep]
   rcases m with((rfl | m) | rfl) | m
   ·simp only[str_len]; omega
   ·have:=innerLen (ind ++ "  ") h.2.1 l m
    rw[str_len,e2]at this; omega
   ·simp only[str_len]; omega
   ·have:=innerLen (ind ++ "  ") h.2.2 l m
    rw[str_len,e2]at this; omega
 | .tri e b o,ind,h,l,m=>by
   have h0:=h.headLen
   simp only[Stm.wf]at h
   have e2:(YN "  ").length=2:=by decide +kernel
   have e3:(YN "except:").length=7:=by decide +kernel
   simp only[Stm.lines,Yh,Ye]at m
   simp only[Stm.dep]
   rcases m with((rfl | m) | rfl) | m
   ·simp only[str_len]; omega
   ·have:=innerLen (ind ++ "  ") h.2.1 l m
    rw[str_len,e2]at this; omega
   ·simp only[str_len]; omega
   ·have:=innerLen (ind ++ "  ") h.2.2 l m
    rw[str_len,e2]at this; omega
theorem innerLen:∀ {b:List Stm} (ind:Str),wfL b→∀ l∈inner ind b,l.length ≤ ind.length + 2 * depL b + 600
 | [],ind,_,l,m=>by
   have e3:(YN "pass").length=4:=by decide +kernel
   simp only[inner,Ye]at m; subst m; simp only[str_len]; omega
 | s :: r,ind,h,l,m=>by
   simp only[wfL]at h
   simp only[inner,Yh]at m
   simp only[depL]
   rcases m with m | m
   ·have:=h.1.lineLen ind l m; omega
   ·have:=linesLen ind h.2 l m; omega
theorem linesLen:∀ {b:List Stm} (ind:Str),wfL b→∀ l∈linesL ind b,l.length ≤ ind.length + 2 * depL b + 600
 | [],ind,_,l,m=>by simp[linesL]at m
 | s :: r,ind,h,l,m=>by
   simp only[wfL]at h
   simp only[linesL,Yh]at m
   simp only[depL]
   rcases m with m | m
   ·have:=h.1.lineLen ind l m; omega
   ·have:=linesLen ind h.2 l m; omega
end
end M
namespace M
open PySem L2
def Zff(K:YA)  : TS:=(Y9 (Xk (YS 1) (Y4 2))
 (Y9 (tFor (ZjT K (YS 0)) (Y4 3) (Xk (tOp Zi4 (tCB Ze3 (YT (tOp (rAdd K) (tOp (rAdd K) (tOp Zl7 (YS 2) (tC (.int 48271))) (tOp Zi4 (tCB Ze3 (YT (YS 3) YZ)) (tC (.int 2147483629)))) (tC (.int 1))) YZ)) (tC (.int 2147483647))) (Y4 2)))
 (Xh (Zbo (YT (YS 2) (YT (tCB (Zhz K) (YT (YS 0) YZ)) (YT (tC (.int 0)) YZ)))))))
def Zlq:List Str:=["_law_script", "_law_seed", "_law_state", "_law_cell"]
def ZcT(K:YA):Sp:=fun vs H Q _=>∃ (a:YD) (ns:List Int) (seed:Int),vs=[.ref a,.int seed]∧SqL K H a (ns.map V.int)∧ns.length ≤ 63∧0 ≤ seed∧seed < 2147483647∧∀ h c H',H h=none→H c=none→Za [] H H'→Drw H' h c→Q (.ref h) H'
theorem ZiB{K:YA}(vs:List V)(H:Hp)(Q:VK)(E:XK)(h:ZcT K vs H Q E):Zff K { nx:=fun _ H'=>Q .non H',rt:=Q } (start Zlq vs) H:=by
 obtain⟨a,ns,seed,rfl,hs,hl,s0,s1,q⟩:=h
 show Zff K _ [some (.ref a),some (.int seed),none,none] H
 unfold Zff
 row_readAll go
 refine .inl ⟨⟨_,hs⟩,Zpg (xs:=ns.map V.int) (fun i σ' H'=>H'=H∧∃ st x,σ'=[some (.ref a),some (.int seed),some (.int st),x]∧0 ≤ st∧st < 2147483647) ⟨rfl,seed,none,rfl,s0,s1⟩ (fun i σ' H' _ ⟨e,_⟩=>by rw[e]; exact hs) ?_ ?_⟩
 ·rintro i x σ' H' hx ⟨rfl,st,y,rfl,t0,t1⟩
  rw[Ym]at hx
  cases hz:ns[i]? with
  | none=>rw[hz]at hx; cases hx
  | some z =>
  rw[hz]at hx
  cases hx
  row_readAll go
  refine⟨.inr ⟨by decide,by decide⟩,by decide,by decide,_,_,rfl,Int.emod_nonneg _ (by decide),Int.emod_lt_of_pos _ (by decide)⟩
 ·rintro σ' H' ⟨rfl,st,y,rfl,t0,t1⟩
  row_readAll go
  refine ZjU (.inl hs) fun l H1 h1 k1 g1=>?_
  refine Zbg (by row_readAll ln) fun p H2 h2 k2 g2=>?_
  exact q p l H2 (k1.free h2) h1 (k1.trans k2) ⟨⟨st,0,ns,g2,k2.obj _ _ Ya g1,t0,t1,by decide,hl⟩,fun e=>by subst e; rw[h2]at g1; cases g1⟩
theorem ZgU{K:YA}{H:Hp}{Q:VK}{E:XK}{h c:YD}{cap:Int}(D:Drw H h c)(c0 : 0 < cap)(c1:cap < 2 ^ 64)(q:∀ v H',0 ≤ v→v < cap→Za [h,c] H H'→Drw H' h c→Q (.int v) H'):Zb K [.ref h,.int cap] H Q E:=⟨h,c,cap,rfl,D,c0,c1,q⟩
theorem Drw.ne1{H:Hp}{h c p:YD}(D:Drw H h c)(n:H p=none):p≠h∧p≠c:=by
 obtain⟨st,ix,cells,h1,h2,_⟩:=D.ex
 exact⟨fun e=>(by subst e; rw[n]at h1; cases h1),fun e=>(by subst e; rw[n]at h2; cases h2)⟩
def Zd1(K:YA)  : TS:=(Y9 (Xk (Zbo (YT (tC (.str "set")) (YT (tC (.str "as")) (YT (tC (.str "\x69mport")) (YT (tC (.str "from")) (YT (tC (.str "pass")) (YT (tC (.str "else")) (YT (tC (.str "def")) (YT (tC (.str "del")) (YT (tC (.str "if")) (YT (tC (.str "try")) (YT (tC (.str "raise")) (YT (tC (.str "any")) (YT (tC (.str "star")) (YT (tC (.str "of")) YZ))))))))))))))) (Y4 1))
 (Y9 (Xk (tC (.str "abcdefghijklmnopqrstuvwxyz")) (Y4 2))
 (Y9 (Xi (Xc (tOp (ZbH K) (Xm (Zb K) [] E0 (YT (YS 0) (YT (tC (.int 3)) YZ))) (tC (.int 0)))) (Xh (tOp (rIx K) (YS 1) (Xm (Zb K) [] E0 (YT (YS 0) (YT (tC (.int 14)) YZ))))) Xo)
 (Xh (tM1 (rJoin K) (tC (.str "")) (tLc (iRng1 (YT (tOp (rAdd K) (tC (.int 1)) (Xm (Zb K) [] E0 (YT (YS 0) (YT (tOp (rIx K) (Zbo (YT (tC (.int 2)) (YT (tC (.int 8)) YZ))) (Xm (Zb K) [] E0 (YT (YS 0) (YT (tC (.int 2)) YZ)))) YZ)))) YZ)) (Y4 3) tYes (tOp (rIx K) (YS 2) (Xm (Zb K) [] E0 (YT (YS 0) (YT (tC (.int 26)) YZ)))) [3]))))))
def Zky:List Str:=["_law_h", "_law_words", "_law_letters", "_law_k"]
def ZiC:List Str:=["set", "as", "\x69mport", "from", "pass", "else", "def", "del", "if", "try", "raise", "any", "star", "of"]
theorem Zlr:∀ x∈ZiC,okN x:=fun x m=>Zj2 (List.all_eq_true.mp (show ZiC.all Zgg=true by decide +kernel) x m)
def ZbQ(K:YA):Sp:=fun vs H Q _=>∃ h c,vs=[.ref h]∧Drw H h c∧∀ x H',okN x→Za [h,c] H H'→Drw H' h c→Q (.str x) H'
theorem ZhP{K:YA}(vs:List V)(H:Hp)(Q:VK)(E:XK)(h:ZbQ K vs H Q E):Zd1 K { nx:=fun _ H'=>Q .non H',rt:=Q } (start Zky vs) H:=by
 obtain⟨h,c,rfl,D,q⟩:=h
 show Zd1 K _ [some (.ref h),none,none,none] H
 unfold Zd1
 have sl:=ZaF
 row_readAll go
 refine Zbg (by row_readAll ln) fun p1 H1 f1 k1 g1=>?_
 row_readAll go
 refine ZgU (D.k0 k1) (by decide) (by decide) fun v H2 v0 v1 k2 D2=>?_
 row_readAll go
 have np:=D.ne1 f1
 have g2:=k2.obj _ _ (by simp[np.1,np.2]) g1
 have k12:KC [h,c] H H2:=⟨k1.nil.trans k2⟩
 refine Zbx (fun _=>?_) (fun _=>?_)
 ·row_readAll go
  refine ZgU D2 (by decide) (by decide) fun w H3 w0 w1 k3 D3=>?_
  have g3:=k3.obj _ _ (by simp[np.1,np.2]) g2
  obtain⟨y,hy,ha⟩:=Ziz (xs:=ZiC.map V.str) w0 (by show w < 14; exact w1)
  rw[Ym]at hy
  cases hz:ZiC[w.toNat]? with
  | none=>rw[hz]at hy; cases hy
  | some z =>
  rw[hz]at hy
  cases hy
  refine ZaA (xs:=ZiC.map V.str) (SqL.of g3) ha ?_
  exact q z H3 (Zlr z (Yj hz)) (k12.k.trans k3) D3
 ·row_readAll go
  refine Zbg (by row_readAll ln) fun p3 H3 f3 k3 g3=>?_
  have D3:=D2.k0 k3
  refine ZgU D3 (by decide) (by decide) fun w H4 w0 w1 k4 D4=>?_
  have np3:=D2.ne1 f3
  have g4:=k4.obj _ _ (by simp[np3.1,np3.2]) g3
  have hw:w=0∨w=1:=by omega
  have h8:∃ m:Int,atI [V.int 2,V.int 8] w=some (.int m)∧0 < m∧m ≤ 8:=by
   rcases hw with rfl | rfl
   ·exact⟨2,rfl,by decide,by decide⟩
   ·exact⟨8,rfl,by decide,by decide⟩
  obtain⟨m,hm,m0,m8⟩:=h8
  refine ZaA (SqL.of g4) hm ?_
  refine ZgU D4 m0 (by omega) fun u H5 u0 u1 k5 D5=>?_
  row_readAll go
  refine⟨by omega,by omega,?_⟩
  refine Zgd (1 + u).toNat (fun Dd i H'=>∃ l:List Nat,H' Dd=some (.lst (l.map fun k=>V.str ⟨#[k]⟩))∧l.length=i∧(∀ k∈l,97 ≤ k∧k ≤ 122)∧Za [h,c] H5 H'∧Drw H' h c) ?_ ?_ ?_ ?_ ?_
  ·exact fun Dd H6 _ k6 g6=>⟨[],g6,rfl,by simp,k6.nil,D5.k0 k6⟩
  ·exact fun Dd H6 _=>YO _
  ·exact fun Dd i H6 hi _=>hi
  ·rintro Dd i H6 x H7 fD hi ⟨l,gl,ll,lo,k6,D6⟩ ⟨rfl,rfl⟩
   row_readAll go
   refine ZgU D6 (by decide) (by decide) fun w H8 w0 w1 k8 D8=>?_
   have npD:=D5.ne1 fD
   have e26:(YN "abcdefghijklmnopqrstuvwxyz").cps.toList=[97,98,99,100,101,102,103,104,105,106,107,108,109,110,111,112,113,114,115,116,117,118,119,120,121,122]:=by decide +kernel
   obtain⟨y,hy,ha⟩:=Ziz (xs:=(YN "abcdefghijklmnopqrstuvwxyz").cps.toList) w0 (by rw[e26]; show w < 26; exact w1)
   refine Zq4 (by rw[sl]; decide +kernel) ha ?_
   have gl8:=k8.obj _ _ (by simp[npD.1,npD.2]) gl
   have hyr : 97 ≤ y∧y ≤ 122:=by
    have hm:=Yj hy
    rw[e26]at hm
    simp only[Yn,Ya,or_false]at hm
    omega
   refine⟨_,gl8,by simp; omega,l++[y],by rw[Y8]; simp,by simp[ll],?_,(k6.trans k8).step1 (Za.put gl8 True.intro) fD,D8.keep (Za.put gl8 True.intro) (by simp[Ne.symm npD.1]) (by simp[Ne.symm npD.2])⟩
   intro k hk
   simp only[Yh,Ye]at hk
   rcases hk with hk | rfl
   ·exact lo k hk
   ·exact hyr
  ·rintro Dd H6 fD ⟨l,gl,ll,lo,k6,D6⟩
   have e9:(l.map fun k=>V.str ⟨#[k]⟩)=(l.map fun k=>(⟨#[k]⟩:Str)).map V.str:=by simp
   rw[e9]at gl
   have e0:(YN "").length=0:=by decide +kernel
   have e1:((l.map fun k=>(⟨#[k]⟩:Str)).map (·.length)).sum=l.length:=by
    clear gl ll lo e9
    induction l with
    | nil=>rfl
    | cons x r ih=>simp only[Yr,List.sum_cons,ih,Yd]; show 1 + _=_; omega
   refine ZoS (SqL.of gl) (by rw[e1,e0]; omega) ?_
   rw[Zkw]
   exact q _ H6 ⟨by show 1 ≤ l.toArray.size; simp; omega,by show l.toArray.size ≤ 8; simp; omega,by simpa using lo⟩ ((((k12.k.trans k3.nil).trans k4).trans k5).trans k6) D6
def Zc3(K:YA)  : TS:=(Y9 (Xk (Zbo YZ) (Y4 2))
 (Y9 (tFor (iRng1 (YT (tOp (rAdd K) (tC (.int 1)) (Xm (Zb K) [] E0 (YT (YS 0) (YT (YS 1) YZ)))) YZ)) (Y4 3) (Y9 (Xk (Xm (ZbQ K) [] E0 (YT (YS 0) YZ)) (Y4 4))
 (Xi (Xc (tOp (ZcI K) (YS 4) (YS 2))) (Xn (tBM K "list" rAppend (YS 2) (YT (YS 4) YZ))) Xo)))
 (Xh (YS 2))))
def Zja:List Str:=["_law_h", "_law_many", "_law_found", "_law_k", "_law_name_here"]
theorem Zte{K:YA}{H:Hp}{Q:VK}{E:XK}{h c:YD}(D:Drw H h c)(q:∀ x H',okN x→Za [h,c] H H'→Drw H' h c→Q (.str x) H'):ZbQ K [.ref h] H Q E:=⟨h,c,rfl,D,q⟩
def Zbu(K:YA):Sp:=fun vs H Q _=>∃ h c many,vs=[.ref h,.int many]∧Drw H h c∧0 < many∧many ≤ 1000∧∀ p (names:List Str) H',H p=none→names≠[]→(names.length:Int) ≤ many→(∀ x∈names,okN x)→names.Nodup→H' p=some (.lst (names.map V.str))→Za [h,c] H H'→Drw H' h c→Q (.ref p) H'
theorem ZgW{K:YA}(vs:List V)(H:Hp)(Q:VK)(E:XK)(h:Zbu K vs H Q E):Zc3 K { nx:=fun _ H'=>Q .non H',rt:=Q } (start Zja vs) H:=by
 obtain⟨h,c,many,rfl,D,m0,m1,q⟩:=h
 show Zc3 K _ [some (.ref h),some (.int many),none,none,none] H
 unfold Zc3
 have sl:=ZaF
 row_readAll go
 refine Zbg (by row_readAll ln) fun p H1 f1 k1 g1=>?_
 have np:=D.ne1 f1
 have D1:=D.k0 k1
 row_readAll go
 refine ZgU D1 m0 (by omega) fun u H2 u0 u1 k2 D2=>?_
 have g2:=k2.obj _ _ (by simp[np.1,np.2]) g1
 row_readAll go
 refine⟨by omega,by omega,?_⟩
 refine Zg5 (fun i σ' H'=>∃ (names:List Str) (x y:Option V),σ'=[some (.ref h),some (.int many),some (.ref p),x,y]∧H' p=some (.lst (names.map V.str))∧(∀ x∈names,okN x)∧names.length ≤ i∧(0 < i→names≠[])∧names.Nodup∧Za [h,c] H H'∧Drw H' h c) ⟨[],none,none,rfl,g2,by simp,YO _,fun h=>absurd h (Nat.lt_irrefl _),by simp,k1.nil.trans k2,D2⟩ ?_ ?_
 ·rintro i σ' H' hi ⟨names,x,y,rfl,gp,ok,ln,ne,nd,k,D'⟩
  row_readAll go
  refine Zte D' fun z H3 oz k3 D3=>?_
  have g3:=k3.obj _ _ (by simp[np.1,np.2]) gp
  row_readAll go
  refine Zo_ (SqL.of g3) ?_
  row_readAll go
  by_cases hz:z∈names
  ·refine ZmX hz ?_
   exact⟨names,_,_,rfl,g3,ok,by omega,fun _ e=>(by rw[e]at hz; cases hz),nd,k.trans k3,D3⟩
  ·refine ZmY hz ?_
   row_readAll go
   refine⟨.inl ⟨rfl,_,SqL.of g3⟩,Ze4 g3 (by simp; omega) fun H4 k4 g4=>?_⟩
   rw[← Ze7]at g4
   refine⟨names++[z],_,_,rfl,g4,?_,by simp; omega,by simp,List.nodup_append.mpr ⟨nd,by simp,by intro a ha b hb e; simp at hb; subst e; subst hb; exact hz ha⟩,k.step ((k3.step1' k4)) (by intro a m; simp at m; rcases m with rfl | rfl | rfl <;> simp[f1]),D3.keep k4 (by simp[Ne.symm np.1]) (by simp[Ne.symm np.2])⟩
   intro a m
   simp only[Yh,Ye]at m
   rcases m with m | rfl
   ·exact ok a m
   ·exact oz
 ·rintro σ' H' ⟨names,x,y,rfl,gp,ok,ln,ne,nd,k,D'⟩
  row_readAll go
  exact q p names H' f1 (ne (by omega)) (by omega) ok nd gp k D'
def Zci(K:YA)  : TS:=(Y9 (Xk (Xm (Zb K) [] E0 (YT (YS 0) (YT (tC (.int 7)) YZ))) (Y4 1))
 (Y9 (Xi (Xc (tOp Zl4 (YS 1) (tC (.int 3)))) (Xh (YS 1)) Xo)
 (Y9 (Xi (Xc (tOp (ZbH K) (YS 1) (tC (.int 3)))) (Xh (tOp Zhx (tOp Zhx (tOp Znj (tC (.int 10)) (tC (.int 60))) (tC (.int 1))) (Xm (Zb K) [] E0 (YT (YS 0) (YT (tC (.int 3)) YZ))))) Xo)
 (Xh (tOp Zl7 (tOp (rIx K) (Zbo (YT (tC (.int 1)) (YT (tUn ZoG (tC (.int 1))) YZ))) (Xm (Zb K) [] E0 (YT (YS 0) (YT (tC (.int 2)) YZ)))) (Xm (Zb K) [] E0 (YT (YS 0) (YT (tOp (rIx K) (Zbo (YT (tC (.int 10)) (YT (tC (.int 1000)) (YT (tOp Znj (tC (.int 10)) (tC (.int 17))) YZ)))) (tOp Zhx (YS 1) (tC (.int 4)))) YZ))))))))
def ZhQ:List Str:=["_law_h", "_law_kind"]
def ZL(K:YA):Sp:=fun vs H Q _=>∃ h c,vs=[.ref h]∧Drw H h c∧∀ i H',okI i→Za [h,c] H H'→Drw H' h c→Q (.int i) H'
theorem Zf3{K:YA}(vs:List V)(H:Hp)(Q:VK)(E:XK)(h:ZL K vs H Q E):Zci K { nx:=fun _ H'=>Q .non H',rt:=Q } (start ZhQ vs) H:=by
 obtain⟨h,c,rfl,D,q⟩:=h
 show Zci K _ [some (.ref h),none] H
 unfold Zci
 row_readAll go
 refine ZgU D (by decide) (by decide) fun u H1 u0 u1 k1 D1=>?_
 row_readAll go
 refine Zbx (fun h3=>?_) (fun h3=>?_)
 ·row_readAll go
  exact q u H1 (by unfold okI; omega) k1 D1
 row_readAll go
 refine Zbx (fun h4=>?_) (fun h4=>?_)
 ·row_readAll go
  refine⟨⟨by decide,by decide,by decide⟩,ZgU D1 (by decide) (by decide) fun w H2 w0 w1 k2 D2=>?_⟩
  row_readAll go
  refine q _ H2 ?_ (k1.trans k2) D2
  have e:(10:Int) ^ (60:Int).toNat=10 ^ 60:=rfl
  rw[e]; unfold okI; omega
 row_readAll go
 refine Zbg (by row_readAll ln) fun p2 H2 f2 k2 g2=>?_
 refine ZgU (D1.k0 k2) (by decide) (by decide) fun w H3 w0 w1 k3 D3=>?_
 have np:=D1.ne1 f2
 have g3:=k3.obj _ _ (by simp[np.1,np.2]) g2
 have hw:w=0∨w=1:=by omega
 have h8:∃ m:Int,atI [V.int 1,V.int (-1)] w=some (.int m)∧(m=1∨m = -1):=by
  rcases hw with rfl | rfl
  ·exact⟨1,rfl,.inl rfl⟩
  ·exact⟨-1,rfl,.inr rfl⟩
 obtain⟨m,hm,m1⟩:=h8
 refine ZaA (SqL.of g3) hm ?_
 refine⟨⟨by decide,by decide,by decide⟩,Zbg (by row_readAll ln) fun p4 H4 f4 k4 g4=>?_⟩
 row_readAll go
 have e17:(10:Int) ^ (17:Int).toNat=10 ^ 17:=rfl
 rw[e17]at g4
 have h9:∃ m:Int,atI [V.int 10,V.int 1000,V.int (10 ^ 17)] (u - 4)=some (.int m)∧0 < m∧m ≤ 10 ^ 17:=by
  have:u=4∨u=5∨u=6:=by omega
  rcases this with rfl | rfl | rfl
  ·exact⟨10,rfl,by decide,by decide⟩
  ·exact⟨1000,rfl,by decide,by decide⟩
  ·exact⟨10 ^ 17,rfl,by decide,by decide⟩
 obtain⟨b,hb,b0,b1⟩:=h9
 refine ZaA (SqL.of g4) hb ?_
 refine ZgU (D3.k0 k4) b0 (by omega) fun z H5 z0 z1 k5 D5=>?_
 row_readAll go
 refine⟨.inl (by rcases m1 with rfl | rfl <;> exact⟨by decide,by decide⟩),?_⟩
 refine q _ H5 ?_ ((((k1.trans k2.nil).trans k3).trans k4.nil).trans k5) D5
 unfold okI
 rcases m1 with rfl | rfl <;> omega
structure NL(H:Hp)(h c nl:YD)(names:List Str):Prop where
 at_:H nl=some (.lst (names.map V.str))
 ne:names≠[]
 few:names.length ≤ 1000
 ok:∀ x∈names,okN x
 n1:nl≠h
 n2:nl≠c
theorem NL.keep{H H':Hp}{h c nl:YD}{names:List Str}(n:NL H h c nl names)(k:Za [h,c] H H'):NL H' h c nl names:=⟨k.obj _ _ (by simp[n.n1,n.n2]) n.at_,n.ne,n.few,n.ok,n.n1,n.n2⟩
theorem NL.k0{H H':Hp}{h c nl:YD}{names:List Str}(n:NL H h c nl names)(k:Za [] H H'):NL H' h c nl names:=n.keep k.nil
theorem NL.pos{H:Hp}{h c nl:YD}{names:List Str}(n:NL H h c nl names) : 0 < ((names.map V.str).length:Int):=by
 have:=List.length_pos_iff.mpr n.ne
 simp; omega
theorem NL.draw{K:YA}{H:Hp}{Q:VK}{E:XK}{h c nl:YD}{names:List Str}(N:NL H h c nl names)(D:Drw H h c)(q:∀ x H',x∈names→okN x→Za [h,c] H H'→Drw H' h c→NL H' h c nl names→Q (.str x) H') :
  rLen K [.ref nl] H fun x H1=>Zb K [.ref h,x] H1 (fun y H2=>rIx K (.ref nl) y H2 Q) E:=by
 refine ZcN (SqL.of N.at_) ?_
 have f:=N.few
 refine ZgU D N.pos (by simp; omega) fun v H1 v0 v1 k1 D1=>?_
 have N1:=N.keep k1
 obtain⟨y,hy,ha⟩:=Ziz (xs:=names.map V.str) v0 v1
 rw[Ym]at hy
 cases hz:names[v.toNat]? with
 | none=>rw[hz]at hy; cases hy
 | some z =>
 rw[hz]at hy
 cases hy
 exact ZaA (SqL.of N1.at_) ha (q z H1 (Yj hz) (N.ok z (Yj hz)) k1 D1 N1)
theorem Zr2{K:YA}{H:Hp}{Q:VK}{E:XK}{h c:YD}(D:Drw H h c)(q:∀ i H',okI i→Za [h,c] H H'→Drw H' h c→Q (.int i) H'):ZL K [.ref h] H Q E:=⟨h,c,rfl,D,q⟩
def Ex.over(ns:List Str):Ex→Prop
 | .int _=>True
 | .nm n=>n∈ns
 | .of n a=>n∈ns∧a∈ns
 | .bin _ l r=>l.over ns∧r.over ns
def Zd2(K:YA)(sp:Sp):TS:=(Y9 (tPar 3 4 (YT (Xm (Zb K) [] E0 (YT (YS 0) (YT (tC (.int 9)) YZ))) (YT (tOp (rIx K) (YS 1) (Xm (Zb K) [] E0 (YT (YS 0) (YT (tCB (rLen K) (YT (YS 1) YZ)) YZ)))) YZ)))
 (Y9 (Xi (tAnd (Xc (tOp Zl8 (YS 3) (tC (.int 6)))) (Xc (tOp Zl8 (YS 2) (tC (.int 0))))) (Xh (Zs K (YT (tOp (rIx K) (Zbo (YT (tC (.str "sum")) (YT (tC (.str "less")) YZ))) (tOp Zhx (YS 3) (tC (.int 7)))) (YT (Xm sp [] E0 (YT (YS 0) (YT (YS 1) (YT (tOp Zhx (YS 2) (tC (.int 1))) YZ)))) (YT (Xm sp [] E0 (YT (YS 0) (YT (YS 1) (YT (tOp Zhx (YS 2) (tC (.int 1))) YZ)))) YZ))))) Xo)
 (Y9 (Xi (Xc (tOp (ZbH K) (YS 3) (tC (.int 3)))) (Xh (Zs K (YT (tC (.str "of")) (YT (YS 4) (YT (tOp (rIx K) (YS 1) (Xm (Zb K) [] E0 (YT (YS 0) (YT (tCB (rLen K) (YT (YS 1) YZ)) YZ)))) YZ))))) Xo)
 (Xh (tIf (Xc (tOp Zl8 (YS 3) (tC (.int 3)))) (Zs K (YT (tC (.str "name")) (YT (YS 4) YZ))) (Xm (ZL K) [] E0 (YT (YS 0) YZ)))))))
def Zkz:List Str:=["_law_h", "_law_names_here", "_law_depth", "_law_kind", "_law_name_here"]
def ZO(K:YA)(n:Nat):Sp:=fun vs H Q _=>∃ h c nl names d,vs=[.ref h,.ref nl,.int d]∧Drw H h c∧NL H h c nl names∧0 ≤ d∧d < n∧∀ v e H',Im K H' v (Ex.d e)→e.wf d.toNat→e.over names→Za [h,c] H H'→Drw H' h c→NL H' h c nl names→Q v H'
theorem Zoz{K:YA}{n:Nat}{H:Hp}{Q:VK}{E:XK}{h c nl:YD}{names:List Str}{d:Int}(D:Drw H h c)(N:NL H h c nl names)(d0 : 0 ≤ d)(dn:d < n)(q:∀ v e H',Im K H' v (Ex.d e)→e.wf d.toNat→e.over names→Za [h,c] H H'→Drw H' h c→NL H' h c nl names→Q v H'):ZO K n [.ref h,.ref nl,.int d] H Q E:=⟨h,c,nl,names,d,rfl,D,N,d0,dn,q⟩
theorem ZhR{K:YA}{n:Nat}(vs:List V)(H:Hp)(Q:VK)(E:XK)(h:ZO K (n + 1) vs H Q E):Zd2 K (ZO K n) { nx:=fun _ H'=>Q .non H',rt:=Q } (start Zkz vs) H:=by
 obtain⟨h,c,nl,names,d,rfl,D,N,d0,dn,q⟩:=h
 show Zd2 K _ _ [some (.ref h),some (.ref nl),some (.int d),none,none] H
 unfold Zd2
 row_readAll go
 refine ZgU D (by decide) (by decide) fun u H1 u0 u1 k1 D1=>?_
 row_readAll go
 refine(N.keep k1).draw D1 fun z H2 m_oz oz k2 D2 N2=>?_
 have k12:KC [h,c] H H2:=⟨k1.trans k2⟩
 row_readAll go
 refine Znr (fun h6 hd=>?_) ?_
 ·row_readAll go
  refine Zbg (by row_readAll ln) fun p3 H3 f3 k3 g3=>?_
  have hu:u=7∨u=8:=by omega
  have h8:∃ s:Bool,atI [V.str "sum",V.str "less"] (u - 7)=some (.str (opW s)):=by
   rcases hu with rfl | rfl
   ·exact⟨true,rfl⟩
   ·exact⟨false,rfl⟩
  obtain⟨s,hs⟩:=h8
  row_readAll go
  refine ZaA (SqL.of g3) hs ?_
  row_readAll go
  refine Zoz (D2.k0 k3) (N2.k0 k3) (by omega) (by omega) fun v1 e1 H4 i1 w1 x1 k4 D4 N4=>?_
  row_readAll go
  refine Zoz D4 N4 (by omega) (by omega) fun v2 e2 H5 i2 w2 x2 k5 D5 N5=>?_
  refine ZV (by row_readAll ln) fun p6 H6 f6 k6 g6=>?_
  refine q (.ref p6) (.bin s e1 e2) H6 ?_ ?_ ⟨x1,x2⟩ ((((k12.k.trans k3.nil).trans k4).trans k5).trans k6.nil) (D5.k0 k6) (N5.k0 k6)
  ·exact .tup g6 (.cons (.str _) (.cons ((i1.mono k5).mono k6) (.cons (i2.mono k6) .nil)))
  ·have e:d.toNat=(d - 1).toNat + 1:=by omega
   rw[e]
   exact⟨w1,w2⟩
 row_readAll go
 refine Zbx (fun h3=>?_) (fun h3=>?_)
 ·row_readAll go
  refine N2.draw D2 fun z2 H3 m_oz2 oz2 k3 D3 N3=>?_
  refine ZV (by row_readAll ln) fun p6 H6 f6 k6 g6=>?_
  refine q (.ref p6) (.of z z2) H6 ?_ (by cases d.toNat <;> exact⟨oz,oz2⟩) ⟨m_oz,m_oz2⟩ ((k12.k.trans k3).trans k6.nil) (D3.k0 k6) (N3.k0 k6)
  exact .tup g6 (.cons (.str _) (.cons (.str _) (.cons (.str _) .nil)))
 row_readAll go
 refine Zbx (fun h4=>?_) (fun h4=>?_)
 ·row_readAll go
  refine ZV (by row_readAll ln) fun p6 H6 f6 k6 g6=>?_
  refine q (.ref p6) (.nm z) H6 ?_ (by cases d.toNat <;> exact oz) m_oz (k12.k.trans k6.nil) (D2.k0 k6) (N2.k0 k6)
  exact .tup g6 (.cons (.str _) (.cons (.str _) .nil))
 ·row_readAll go
  refine Zr2 D2 fun i H3 oi k3 D3=>?_
  exact q (.int i) (.int i) H3 (.int i) (by cases d.toNat <;> exact oi) True.intro (k12.k.trans k3) D3 (N2.keep k3)
def Ztf:Nat→Nat
 | 0=>46 | 1=>22 | 2=>10 | 3=>4 | _=>0
def Zp5:Nat→Nat
 | 0=>138 | 1=>22 | 2=>10 | 3=>4 | _=>0
structure Zts(d:Nat)(s:Stm):Prop where
 wf:s.wf
 dep:s.dep + d ≤ 4
 cnt:∀ ind,(s.lines ind).length ≤ Ztf d
structure Zp6(d:Nat)(b:List Stm):Prop where
 wf:wfL b
 dep:depL b + d ≤ 4
 cnt:∀ ind,(linesL ind b).length ≤ Zp5 d
theorem Zp6.inner{d:Nat}{b:List Stm}(h:Zp6 d b)(ind:Str):(inner ind b).length ≤ max 1 (Zp5 d):=by
 cases b with
 | nil=>simp[M.inner]; omega
 | cons s r=>rw[Zkj _ _ (by simp)]; have:=h.cnt ind; omega
theorem ImAll.snoc{K:YA}{H:Hp}{vs:List V}{ds:List PyData}{v:V}{d:PyData}(a:ImAll K H vs ds)(b:Im K H v d):ImAll K H (vs++[v]) (ds++[d]):=a.append (.cons b .nil)
theorem Zjb(a:List Stm)(s:Stm):depL (a++[s])=max (depL a) s.dep:=by
 induction a with
 | nil=>simp[depL]
 | cons x r ih=>simp only[Yz,depL,ih]; omega
section
variable {K:YA} {H:Hp} {Q:VK} {E:XK}
theorem ZnX{c:Nat}{z:Str}(q:Q (.bl (!decide (c∈z.cps.toList))) H):ZcI K (.str ⟨#[c]⟩) (.str z) H Q:=.inr ⟨c,z,rfl,rfl,q⟩
theorem Zjc(c:Nat):(c∈(YN "abcdefghijklmnopqrstuvwxyz").cps.toList)↔(97 ≤ c∧c ≤ 122):=by
 have e:(YN "abcdefghijklmnopqrstuvwxyz").cps.toList=List.range' 97 26:=by decide +kernel
 rw[e,List.mem_range'_1]
 omega
theorem Zmq(x:Str)(l:List Nat):DpAll K H (l.map fun c=>V.str ⟨#[c]⟩) (l.map fun c=>PyData.str ⟨#[c]⟩):=by
 induction l with
 | nil=>exact .nil
 | cons c r ih=>exact .cons (.str _) ih
theorem Zgx{f:V→Bool}:∀ {xs:List V} {ds:List PyData},DpAll K H xs ds→∃ es,DpAll K H (xs.filter f) es∧∀ e∈es,e∈ds
 | _,_,.nil=>⟨[],.nil,by simp⟩
 | x :: _,d :: _,.cons h t=>by
   obtain⟨es,h1,h2⟩:=Zgx (f:=f) t
   rw[List.filter_cons]
   split
   ·exact⟨d :: es,.cons h h1,by intro e m; simp only[Yn]at m ⊢; rcases m with m | m; exact .inl m; exact .inr (h2 e m)⟩
   ·exact⟨es,h1,fun e m=>Yf _ (h2 e m)⟩
theorem Zdx{α : Type}(f : α→Bool)(l:List α):(l.filter f).isEmpty=l.all fun x=>!f x:=by
 induction l with
 | nil=>rfl
 | cons x r ih=>rw[List.filter_cons]; cases h:f x <;> simp[h,ih]
end
def Zgy:V→Bool
 | .str z=>z.cps.toList.any fun c=>!decide (97 ≤ c∧c ≤ 122)
 | _=>false
theorem Zgz(c:Nat):Zgy (.str ⟨#[c]⟩) = !decide (97 ≤ c∧c ≤ 122):=by simp[Zgy]
def Z6(K:YA):Sp:=fun vs H Q _=>∃ x,vs=[.str x]∧x.length ≤ 4000∧PyData.strOk x=true∧∀ H',Za [] H H'→Q (.bl (Zgg x)) H'
theorem Zfg{K:YA}{H:Hp}{Q:VK}{E:XK}{x:Str}(l:x.length ≤ 4000)(o:PyData.strOk x=true)(q:∀ H',Za [] H H'→Q (.bl (Zgg x)) H'):Z6 K [.str x] H Q E:=⟨x,rfl,l,o,q⟩
def Zfh(K:YA)  : TS:=(Xh (tAndV (tChain ZsC ZsC (tC (.int 1)) (tCB (rLen K) (YT (YS 0) YZ)) (tC (.int 8))) (tOp (ZbH K) (tLc (iStr (YS 0)) (Y4 1) (Xc (tOp (ZcI K) (YS 1) (tC (.str "abcdefghijklmnopqrstuvwxyz")))) (YS 1) [1]) (Zbo YZ))))
def Zls:List Str:=["text", "sign"]
theorem ZiD{K:YA}(vs:List V)(H:Hp)(Q:VK)(E:XK)(h:Z6 K vs H Q E):Zfh K { nx:=fun _ H'=>Q .non H',rt:=Q } (start Zls vs) H:=by
 obtain⟨x,rfl,hl,ho,q⟩:=h
 show Zfh K _ [some (.str x),none] H
 unfold Zfh
 have sl:=ZaF
 row_readAll go
 refine ZoP (by omega) ?_
 row_readAll go
 refine Zbx (fun h1=>?_) (fun h1=>?_)
 ·row_readAll go
  refine Zbx (fun h2=>?_) (fun h2=>?_)
  ·row_readAll go
   refine Ze8 (σ:=[some (.str x),none]) Zgy Wk.str (by simp[signs]; unfold Str.length at hl; omega) (by simp) ?_ fun D H2 hD k2 h2=>?_
   ·intro i v H2 R hi k r
    simp only[signs,Ym,Option.map_eq_some_iff]at hi
    obtain⟨c,hc,rfl⟩:=hi
    row_readAll go
    refine ZnX ?_
    row_readAll go
    have e:=r H2 (Za.refl _ _)
    rw[Zgz]at e
    simp only[decide_eq_decide.mpr (Zjc c)]
    exact e
   ·row_readAll go
    refine Zbg (by row_readAll ln) fun p H3 hp k3 h3=>?_
    obtain⟨es,he,hm⟩:=Zgx (K:=K) (H:=H3) (f:=Zgy) (Zmq x x.cps.toList)
    refine Zi_ (k3.obj _ _ Ya h2) he h3 ((ZeM _).mpr fun d m=>?_) ?_
    ·have m2:=hm d m
     simp only[Yq]at m2
     obtain⟨c,hc,rfl⟩:=m2
     refine⟨?_,by simp[PyData.depth]⟩
     simp only[PyData.canLay0]
     unfold PySem.PyData.strOk at ho ⊢
     rw[Array.all_eq_true_iff_forall_mem]at ho ⊢
     intro c' hc'
     simp at hc'
     subst hc'
     exact ho _ (by simpa using hc)
    ·rw[Zdx]
     have e:=q H3 (k2.trans k3)
     have e2:Zgg x=(signs x).all (fun v=>!Zgy v):=by
      unfold Zgg signs
      have g1:(1:Int) ≤ x.length:=h1
      have g2:(x.length:Int) ≤ 8:=by assumption
      rw[decide_eq_true (show 1 ≤ x.length by omega),decide_eq_true (show x.length ≤ 8 by omega),List.all_map]
      simp only[Bool.true_and]
      congr 1
      funext c
      simp only[Function.comp,Zgz,Bool.not_not,Bool.decide_and]
     rw[e2]at e
     exact e
  ·have e:=q H (Za.refl _ _)
   have e2:Zgg x=false:=by
    unfold Zgg
    have g2:¬ (x.length:Int) ≤ 8:=h2
    rw[decide_eq_false (show ¬ x.length ≤ 8 by omega)]
    simp
   rw[e2]at e
   row_readAll go
   exact e
 ·have e:=q H (Za.refl _ _)
  have e2:Zgg x=false:=by
   unfold Zgg
   have g2:¬ (1:Int) ≤ x.length:=h1
   rw[decide_eq_false (show ¬ 1 ≤ x.length by omega)]
   simp
  rw[e2]at e
  row_readAll go
  exact e
def Stm.blocks:Stm→List (List Stm)
 | .fn _ b=>[b]
 | .ite _ b o=>[b,o]
 | .tri _ b h=>[b,h]
 | _=>[]
def Stm.names:Stm→List Str
 | .imp m n=>[m,n]
 | .frm m w n=>[m,w,n]
 | .set n _=>[n]
 | .fn n _=>[n]
 | .del n=>[n]
 | .star m=>[m]
 | _=>[]
def Stm.exprs:Stm→List Ex
 | .set _ e=>[e]
 | .ite e _ _=>[e]
 | .shw e=>[e]
 | .call e=>[e]
 | _=>[]
def Stm.vs(K:YA)(H:Hp)(s:Stm)(xs:List V):Prop:=match s with
 | .set n e=>∃ v,xs=[.str "set",.str n,v]∧Im K H v e.d
 | .del n=>xs=[.str "del",.str n]
 | .shw e=>∃ v,xs=[.str "show",v]∧Im K H v e.d
 | .call e=>∃ v,xs=[.str "call",v]∧Im K H v e.d
 | .raise=>xs=[.str "raise"]
 | .imp m n=>xs=[.str "\x69mport",.str m,.str n]
 | .frm m w n=>xs=[.str "from",.str m,.str w,.str n]
 | .star m=>xs=[.str "star",.str m]
 | .fn n b=>∃ v,xs=[.str "def",.str n,v]∧Im K H v (.tuple (blkD b))
 | .ite e b o=>∃ v1 v2 v3,xs=[.str "if",v1,v2,v3]∧Im K H v1 e.d∧Im K H v2 (.tuple (blkD b))∧Im K H v3 (.tuple (blkD o))
 | .tri k b h=>∃ v2 v3,xs=[.str "try",.str k,v2,v3]∧Im K H v2 (.tuple (blkD b))∧Im K H v3 (.tuple (blkD h))
theorem Im.stm{K:YA}{H:Hp}{v:V}{s:Stm}(h:Im K H v s.d):∃ a xs,v = .ref a∧SqT K H a xs∧s.vs K H xs:=by
 cases s <;> simp only[Stm.d]at h <;> obtain⟨a,xs,rfl,hs,ha⟩:=h.of_tup <;> refine⟨a,xs,rfl,hs,?_⟩ <;> obtain⟨v0,r,rfl,h0,hb⟩:=ha.of_cons <;> cases h0.of_str <;> clear ha <;> have ha:=hb
 case set=>obtain⟨v1,r,rfl,h1,ha⟩:=ha.of_cons; obtain⟨v2,r,rfl,h2,ha⟩:=ha.of_cons; cases ha.of_nil; cases h1.of_str; exact⟨_,rfl,h2⟩
 case del=>obtain⟨v1,r,rfl,h1,ha⟩:=ha.of_cons; cases ha.of_nil; cases h1.of_str; exact rfl
 case shw=>obtain⟨v1,r,rfl,h1,ha⟩:=ha.of_cons; cases ha.of_nil; exact⟨_,rfl,h1⟩
 case call=>obtain⟨v1,r,rfl,h1,ha⟩:=ha.of_cons; cases ha.of_nil; exact⟨_,rfl,h1⟩
 case raise=>cases ha.of_nil; exact rfl
 case imp=>obtain⟨v1,r,rfl,h1,ha⟩:=ha.of_cons; obtain⟨v2,r,rfl,h2,ha⟩:=ha.of_cons; cases ha.of_nil; cases h1.of_str; cases h2.of_str; exact rfl
 case frm=>obtain⟨v1,r,rfl,h1,ha⟩:=ha.of_cons; obtain⟨v2,r,rfl,h2,ha⟩:=ha.of_cons; obtain⟨v3,r,rfl,h3,ha⟩:=ha.of_cons; cases ha.of_nil; cases h1.of_str; cases h2.of_str; cases h3.of_str; exact rfl
 case star=>obtain⟨v1,r,rfl,h1,ha⟩:=ha.of_cons; cases ha.of_nil; cases h1.of_str; exact rfl
 case fn=>obtain⟨v1,r,rfl,h1,ha⟩:=ha.of_cons; obtain⟨v2,r,rfl,h2,ha⟩:=ha.of_cons; cases ha.of_nil; cases h1.of_str; exact⟨_,rfl,h2⟩
 case ite=>obtain⟨v1,r,rfl,h1,ha⟩:=ha.of_cons; obtain⟨v2,r,rfl,h2,ha⟩:=ha.of_cons; obtain⟨v3,r,rfl,h3,ha⟩:=ha.of_cons; cases ha.of_nil; exact⟨_,_,_,rfl,h1,h2,h3⟩
 case tri=>obtain⟨v1,r,rfl,h1,ha⟩:=ha.of_cons; obtain⟨v2,r,rfl,h2,ha⟩:=ha.of_cons; obtain⟨v3,r,rfl,h3,ha⟩:=ha.of_cons; cases ha.of_nil; cases h1.of_str; exact⟨_,_,rfl,h2,h3⟩
local macro_rules | `(tactic| row_readAll ia) => `(tactic| first | exact ImAll.nil | exact ImAll.cons (by row_readAll im) (by row_readAll ia) | exact ImAll.cons (.str _) (by row_readAll ia))
def Zb5(K:YA):Sp:=fun vs H Q _=>∃ v s,vs=[v]∧Im K H v (Stm.d s)∧∀ p H',Za [] H H'→Im K H' (.ref p) (.tuple (s.blocks.map fun b=>.tuple (blkD b)))→Q (.ref p) H'
def Zc4(K:YA)  : TS:=(Y9 (Xi (Xc (tOp (ZbH K) (tOp (rIx K) (YS 0) (tC (.int 0))) (tC (.str "def")))) (Xh (Zs K (YT (tOp (rIx K) (YS 0) (tC (.int 2))) YZ))) Xo)
 (Y9 (Xi (Xc (tOp (Zl5 K) (tOp (rIx K) (YS 0) (tC (.int 0))) (Zs K (YT (tC (.str "if")) (YT (tC (.str "try")) YZ))))) (Xh (Zs K (YT (tOp (rIx K) (YS 0) (tC (.int 2))) (YT (tOp (rIx K) (YS 0) (tC (.int 3))) YZ)))) Xo)
 (Xh (Zs K YZ))))
def Zjd:List Str:=["statement"]
theorem ZgX{K:YA}(vs:List V)(H:Hp)(Q:VK)(E:XK)(h:Zb5 K vs H Q E):Zc4 K { nx:=fun _ H'=>Q .non H',rt:=Q } (start Zjd vs) H:=by
 obtain⟨v,s,rfl,hi,q⟩:=h
 show Zc4 K _ [some v] H
 unfold Zc4
 obtain⟨a,xs,rfl,hs,hv⟩:=hi.stm
 cases s <;> simp only[Stm.vs]at hv
 case' set=>obtain⟨v2,rfl,h2⟩:=hv
 case' shw=>obtain⟨v2,rfl,h2⟩:=hv
 case' call=>obtain⟨v2,rfl,h2⟩:=hv
 case' fn=>obtain⟨v2,rfl,h2⟩:=hv
 case' ite=>obtain⟨v1,v2,v3,rfl,h1,h2,h3⟩:=hv
 case' tri=>obtain⟨v2,v3,rfl,h2,h3⟩:=hv
 case' del=>subst hv
 case' raise=>subst hv
 case' imp=>subst hv
 case' frm=>subst hv
 case' star=>subst hv
 all_goals (row_readAll ga; exact q _ _ (by row_readAll kp) (.tup (by row_readAll sq) (by row_readAll ia)))
def Zcs(K:YA):Sp:=fun vs H Q _=>∃ v s,vs=[v]∧Im K H v (Stm.d s)∧∀ p H',Za [] H H'→SqT K H' p (s.names.map V.str)→Q (.ref p) H'
def Zd3(K:YA)  : TS:=(Y9 (ZjQ K (YS 0) [(some [.lit "\x69mport",.cap 1,.cap 2],(Xh (Zs K (YT (YS 1) (YT (YS 2) YZ))))),
  (some [.lit "from",.cap 1,.cap 3,.cap 2],(Xh (Zs K (YT (YS 1) (YT (YS 3) (YT (YS 2) YZ)))))),
  (some [.lit "set",.cap 2,.cap 4],(Xh (Zs K (YT (YS 2) YZ)))),
  (some [.lit "def",.cap 2,.cap 5],(Xh (Zs K (YT (YS 2) YZ)))),
  (some [.lit "del",.cap 2],(Xh (Zs K (YT (YS 2) YZ)))),
  (some [.lit "star",.cap 1],(Xh (Zs K (YT (YS 1) YZ))))])
 (Xh (Zs K YZ)))
def ZkA:List Str:=["statement", "module", "name", "wanted", "expr", "block"]
theorem ZhS{K:YA}(vs:List V)(H:Hp)(Q:VK)(E:XK)(h:Zcs K vs H Q E):Zd3 K { nx:=fun _ H'=>Q .non H',rt:=Q } (start ZkA vs) H:=by
 obtain⟨v,s,rfl,hi,q⟩:=h
 show Zd3 K _ [some v,none,none,none,none,none] H
 unfold Zd3
 obtain⟨a,xs,rfl,hs,hv⟩:=hi.stm
 cases s <;> simp only[Stm.vs]at hv
 case' set=>obtain⟨v2,rfl,h2⟩:=hv
 case' shw=>obtain⟨v2,rfl,h2⟩:=hv
 case' call=>obtain⟨v2,rfl,h2⟩:=hv
 case' fn=>obtain⟨v2,rfl,h2⟩:=hv
 case' ite=>obtain⟨v1,v2,v3,rfl,h1,h2,h3⟩:=hv
 case' tri=>obtain⟨v2,v3,rfl,h2,h3⟩:=hv
 case' del=>subst hv
 case' raise=>subst hv
 case' imp=>subst hv
 case' frm=>subst hv
 case' star=>subst hv
 all_goals (row_readAll ga; exact q _ _ (by row_readAll kp) (by row_readAll sq))
def Zam(K:YA):Sp:=fun vs H Q _=>∃ v s,vs=[v]∧Im K H v (Stm.d s)∧∀ p H',Za [] H H'→Im K H' (.ref p) (.tuple (s.exprs.map Ex.d))→Q (.ref p) H'
def Zbk(K:YA)  : TS:=(Y9 (ZjQ K (YS 0) [(some [.lit "set",.cap 1,.cap 2],(Xh (Zs K (YT (YS 2) YZ)))),
  (some [.lit "if",.cap 2,.cap 3,.cap 4],(Xh (Zs K (YT (YS 2) YZ)))),
  (some [.lit "show",.cap 2],(Xh (Zs K (YT (YS 2) YZ)))),
  (some [.lit "call",.cap 2],(Xh (Zs K (YT (YS 2) YZ))))])
 (Xh (Zs K YZ)))
def Zf4:List Str:=["statement", "name", "expr", "block", "other"]
theorem ZeQ{K:YA}(vs:List V)(H:Hp)(Q:VK)(E:XK)(h:Zam K vs H Q E):Zbk K { nx:=fun _ H'=>Q .non H',rt:=Q } (start Zf4 vs) H:=by
 obtain⟨v,s,rfl,hi,q⟩:=h
 show Zbk K _ [some v,none,none,none,none] H
 unfold Zbk
 obtain⟨a,xs,rfl,hs,hv⟩:=hi.stm
 cases s <;> simp only[Stm.vs]at hv
 case' set=>obtain⟨v2,rfl,h2⟩:=hv
 case' shw=>obtain⟨v2,rfl,h2⟩:=hv
 case' call=>obtain⟨v2,rfl,h2⟩:=hv
 case' fn=>obtain⟨v2,rfl,h2⟩:=hv
 case' ite=>obtain⟨v1,v2,v3,rfl,h1,h2,h3⟩:=hv
 case' tri=>obtain⟨v2,v3,rfl,h2,h3⟩:=hv
 case' del=>subst hv
 case' raise=>subst hv
 case' imp=>subst hv
 case' frm=>subst hv
 case' star=>subst hv
 all_goals (row_readAll ga; exact q _ _ (by row_readAll kp) (.tup (by row_readAll sq) (by row_readAll ia)))
def Zct(K:YA):Sp:=fun vs H Q _=>∃ a xs,vs=[.ref a]∧SqT K H a xs∧Q (.int ((xs.length / 2:Nat):Int)) H
def Zd4(K:YA)  : TS:=(Xh (tOp Zni (tCB (rLen K) (YT (YS 0) YZ)) (tC (.int 2))))
def ZkB:List Str:=["path"]
theorem ZhT{K:YA}(vs:List V)(H:Hp)(Q:VK)(E:XK)(h:Zct K vs H Q E):Zd4 K { nx:=fun _ H'=>Q .non H',rt:=Q } (start ZkB vs) H:=by
 obtain⟨a,xs,rfl,hs,q⟩:=h
 show Zd4 K _ [some (.ref a)] H
 unfold Zd4
 row_readAll go
 refine Zig hs ?_
 row_readAll go
 exact⟨⟨by decide,by decide⟩,q⟩
def Ex.ok(ops:Nat):Ex→Bool
 | .int i=>decide (i.natAbs < 10 ^ 60)
 | .nm n=>Zgg n
 | .of n a=>Zgg n && Zgg a
 | .bin _ l r=>if ops=3 then false else l.ok (ops + 1) && r.ok (ops + 1)
def Ex.strs:Ex→List Str
 | .int _=>[]
 | .nm n=>[n]
 | .of n a=>[n,a]
 | .bin _ l r=>l.strs++r.strs
def Ex.tx(e:Ex):Prop:=∀ x∈e.strs,x.length ≤ 4000∧PyData.strOk x=true
def Zg(K:YA)(n:Nat):Sp:=fun vs H Q _=>∃ v e,∃ ops:Nat,vs=[v,.int ops]∧Im K H v (Ex.d e)∧e.tx∧ops + n=5∧ops ≤ 3∧∀ H',Za [] H H'→Q (.bl (e.ok ops)) H'
theorem ZnY{K:YA}{n:Nat}{H:Hp}{Q:VK}{E:XK}{v:V}{e:Ex}{ops:Nat}(h:Im K H v e.d)(t:e.tx)(o:ops + n=5)(o3:ops ≤ 3)(q:∀ H',Za [] H H'→Q (.bl (e.ok ops)) H'):Zg K n [v,.int ops] H Q E:=⟨v,e,ops,rfl,h,t,o,o3,q⟩
def ZJ(K:YA)(sp:Sp):TS:=(Y9 (Xi (tB (Xm (ZF K) [] E0 (YT (YS 0) YZ))) (Xh (tChain Zl4 Zl4 (tUn ZoG (tC (.int 1000000000000000000000000000000000000000000000000000000000000))) (YS 0) (tC (.int 1000000000000000000000000000000000000000000000000000000000000)))) Xo)
 (Y9 (Xi (Xc (tOp (ZbH K) (tOp (rIx K) (YS 0) (tC (.int 0))) (tC (.str "name")))) (Xh (Xm (Z6 K) [] E0 (YT (tOp (rIx K) (YS 0) (tC (.int 1))) YZ))) Xo)
 (Y9 (Xi (Xc (tOp (ZbH K) (tOp (rIx K) (YS 0) (tC (.int 0))) (tC (.str "of")))) (Xh (tAndV (Xm (Z6 K) [] E0 (YT (tOp (rIx K) (YS 0) (tC (.int 1))) YZ)) (Xm (Z6 K) [] E0 (YT (tOp (rIx K) (YS 0) (tC (.int 2))) YZ)))) Xo)
 (Y9 (Xi (Xc (tOp (ZbH K) (YS 1) (tC (.int 3)))) (Xh (tC (.bl false))) Xo)
 (Xh (tAndV (Xm sp [] E0 (YT (tOp (rIx K) (YS 0) (tC (.int 1))) (YT (tOp (rAdd K) (YS 1) (tC (.int 1))) YZ))) (Xm sp [] E0 (YT (tOp (rIx K) (YS 0) (tC (.int 2))) (YT (tOp (rAdd K) (YS 1) (tC (.int 1))) YZ)))))))))
def Zdy:List Str:=["expr", "operators"]
theorem ZcU{K:YA}{n:Nat}(vs:List V)(H:Hp)(Q:VK)(E:XK)(h:Zg K (n + 1) vs H Q E):ZJ K (Zg K n) { nx:=fun _ H'=>Q .non H',rt:=Q } (start Zdy vs) H:=by
 obtain⟨v,e,ops,rfl,hi,ht,ho,h3,q⟩:=h
 show ZJ K _ _ [some v,some (.int ops)] H
 unfold ZJ
 cases e with
 | int i =>
   cases hi
   have q1:=q H (Za.refl _ _)
   simp only[Ex.ok]at q1
   row_readAll go
   refine Zbx (fun h1=>?_) (fun h1=>?_)
   ·row_readAll go
    have e:decide (i < 1000000000000000000000000000000000000000000000000000000000000)=decide (i.natAbs < 10 ^ 60):=decide_eq_decide.mpr ⟨fun h=>by omega,fun h=>by omega⟩
    rw[e]; exact q1
   ·row_readAll go
    rw[decide_eq_false (by omega)]at q1
    exact q1
 | nm m =>
   obtain⟨a,xs,rfl,hs,ha⟩:=hi.of_tup
   obtain⟨v0,r,rfl,h0,ha⟩:=ha.of_cons
   obtain⟨v1,r,rfl,h1,ha⟩:=ha.of_cons
   cases ha.of_nil; cases h0.of_str; cases h1.of_str
   have t:=ht m (by simp[Ex.strs])
   row_readAll go
   exact Zfg t.1 t.2 q
 | of m b =>
   obtain⟨a,xs,rfl,hs,ha⟩:=hi.of_tup
   obtain⟨v0,r,rfl,h0,ha⟩:=ha.of_cons
   obtain⟨v1,r,rfl,h1,ha⟩:=ha.of_cons
   obtain⟨v2,r,rfl,h2,ha⟩:=ha.of_cons
   cases ha.of_nil; cases h0.of_str; cases h1.of_str; cases h2.of_str
   have t:=ht m (by simp[Ex.strs])
   have t2:=ht b (by simp[Ex.strs])
   simp only[Ex.ok]at q
   row_readAll go
   refine Zfg t.1 t.2 fun H1 k1=>?_
   cases z:Zgg m <;> rw[z]at q
   ·row_readAll go
    exact q H1 k1
   ·row_readAll go
    exact Zfg t2.1 t2.2 fun H2 k2=>q H2 (k1.trans k2)
 | bin s l r =>
   obtain⟨a,xs,rfl,hs,ha⟩:=hi.of_tup
   obtain⟨v0,rr,rfl,h0,ha⟩:=ha.of_cons
   obtain⟨v1,rr,rfl,h1,ha⟩:=ha.of_cons
   obtain⟨v2,rr,rfl,h2,ha⟩:=ha.of_cons
   cases ha.of_nil; cases h0.of_str
   have tl:l.tx:=fun x m=>ht x (by simp[Ex.strs,m])
   have tr:r.tx:=fun x m=>ht x (by simp[Ex.strs,m])
   have key:(fun D H'=>ZJ K (Zg K n) D [some (V.ref a),some (.int ops)] H')=(fun D H'=>ZJ K (Zg K n) D [some (V.ref a),some (.int ops)] H'):=rfl
   simp only[Ex.ok]at q
   cases s
   all_goals
    row_readAll go
    refine Zbx (fun h4=>?_) (fun h4=>?_)
    ·have e3:ops=3:=by omega
     rw[if_pos e3]at q
     row_readAll go
     exact q H (Za.refl _ _)
    ·have e3:¬ ops=3:=by omega
     rw[if_neg e3]at q
     row_readAll go
     refine ZnY (ops:=ops + 1) h1 tl (by omega) (by omega) fun H1 k1=>?_
     cases z:l.ok (ops + 1) <;> rw[z]at q
     ·row_readAll go
      exact q H1 k1
     ·row_readAll go
      refine ZnY (ops:=ops + 1) (h2.mono k1) tr (by omega) (by omega) fun H2 k2=>?_
      exact q H2 (k1.trans k2)
abbrev Pth:=List Nat
def ZcJ(p:Pth):PyData:=.tuple (p.map fun n=>.int (n:Nat))
def Zgi(r:Pth×Stm):PyData:=.tuple [ZcJ r.1,r.2.d]
mutual
def Stm.sub(path:Pth):Stm→List (Pth×Stm)
 | .fn _ b=>walkL (path++[0]) 0 b
 | .ite _ b o=>walkL (path++[0]) 0 b++walkL (path++[1]) 0 o
 | .tri _ b h=>walkL (path++[0]) 0 b++walkL (path++[1]) 0 h
 | _=>[]
def walkL(base:Pth)(i:Nat):List Stm→List (Pth×Stm)
 | []=>[]
 | s :: r=>(base++[i],s) :: (s.sub (base++[i])++walkL base (i + 1) r)
end
def Zb6(path:Pth)(k:Nat):List (List Stm)→List (Pth×Stm)
 | []=>[]
 | b :: r=>walkL (path++[k]) 0 b++Zb6 path (k + 1) r
theorem Zj3(path:Pth)(s:Stm):s.sub path=Zb6 path 0 s.blocks:=by
 cases s <;> simp[Stm.sub,Stm.blocks,Zb6]
theorem Zdz(base:Pth):∀ (a c:List Stm) (j:Nat),walkL base j (a++c)=walkL base j a++walkL base (j + a.length) c
 | [],c,j=>by simp[walkL]
 | s :: r,c,j=>by
   simp only[Yz,walkL,Zdz base r c (j + 1),Yd,Ys]
   rw[show j + 1 + r.length=j + (r.length + 1)by omega]
theorem ZdA(path:Pth):∀ (a c:List (List Stm)) (j:Nat),Zb6 path j (a++c)=Zb6 path j a++Zb6 path (j + a.length) c
 | [],c,j=>by simp[Zb6]
 | s :: r,c,j=>by
   simp only[Yz,Zb6,ZdA path r c (j + 1),Yd,Ys]
   rw[show j + 1 + r.length=j + (r.length + 1)by omega]
theorem ZhU{α : Type}{xs:List α}{i:Nat}{x : α}(e:xs[i]? = some x):xs=xs.take i++(x :: xs.drop (i + 1)):=by
 obtain⟨hi,e2⟩:=Yk.mp e
 rw[← e2,← List.drop_eq_getElem_cons hi,List.take_append_drop]
theorem take_len{α : Type}{xs:List α}{i:Nat}{x : α}(e:xs[i]? = some x):(xs.take i).length=i:=by
 have:=ZeF e; simp; omega
theorem Zhk(base:Pth){b:List Stm}{i:Nat}{s:Stm}(e:b[i]? = some s):walkL base 0 b=walkL base 0 (b.take i)++((base++[i],s) :: (s.sub (base++[i])++walkL base (i + 1) (b.drop (i + 1)))):=by
 conv=>lhs; rw[ZhU e]
 rw[Zdz,take_len e]
 simp[walkL]
theorem ZiE(base:Pth){b:List Stm}{i:Nat}{s:Stm}(e:b[i]? = some s):walkL base 0 (b.take (i + 1))=walkL base 0 (b.take i)++((base++[i],s) :: s.sub (base++[i])):=by
 rw[take_snoc e,Zdz,take_len e]
 simp[walkL]
theorem Zhl(path:Pth){bs:List (List Stm)}{k:Nat}{b:List Stm}(e:bs[k]? = some b):Zb6 path 0 bs=Zb6 path 0 (bs.take k)++(walkL (path++[k]) 0 b++Zb6 path (k + 1) (bs.drop (k + 1))):=by
 conv=>lhs; rw[ZhU e]
 rw[ZdA,take_len e]
 simp[Zb6]
theorem ZiF(path:Pth){bs:List (List Stm)}{k:Nat}{b:List Stm}(e:bs[k]? = some b):Zb6 path 0 (bs.take (k + 1))=Zb6 path 0 (bs.take k)++walkL (path++[k]) 0 b:=by
 rw[take_snoc e,ZdA,take_len e]
 simp[Zb6]
theorem Zhm{s:Stm}{k:Nat}{b:List Stm}(e:s.blocks[k]? = some b):depL b < s.dep:=by
 have m:=Yj e
 cases s <;> simp only[Stm.blocks,Yn,Ya,or_false]at m
 ·subst m; simp only[Stm.dep]; omega
 ·rcases m with rfl | rfl <;> (simp only[Stm.dep]; omega)
 ·rcases m with rfl | rfl <;> (simp only[Stm.dep]; omega)
section
variable {K:YA} {σ:L2.St} {H:Hp} {Q:VK} {R:L2.St→Hp→Prop}
theorem ZiG{a:YD}{x y:V}{i j:Nat}(h:SqT K H a [x,y])(q:R ((σ.set i (some x)).set j (some y)) H):gTup K 2 (gCons (Y4 i) (gCons (Y4 j) gNil)) (.ref a) σ H R :=
 ZoQ h rfl (ZsE (ZsE (ZsT q)))
theorem Im.path{a:YD}{p:Pth}(h:Im K H (.ref a) (ZcJ p)):SqT K H a (p.map fun n=>V.int (n:Nat)):=by
 obtain⟨b,xs,e,hs,ha⟩:=h.of_tup
 cases e
 have key:∀ (p:Pth) (xs:List V),ImAll K H xs (p.map fun n=>PyData.int (n:Nat))→xs=p.map fun n=>V.int (n:Nat):=by
  intro p
  induction p with
  | nil=>intro xs h; exact h.of_nil
  | cons n r ih =>
    intro xs h
    obtain⟨v,r',rfl,h1,h2⟩:=h.of_cons
    rw[h1.of_int,ih r' h2]
    rfl
 rw[key p xs ha]at hs
 exact hs
theorem ZfD{a:YD}{p:Pth}(h:SqT K H a (p.map fun n=>V.int (n:Nat))):Im K H (.ref a) (ZcJ p):=by
 refine .tup h ?_
 induction p generalizing a with
 | nil=>exact .nil
 | cons n r ih =>
   have key:∀ r:Pth,ImAll K H (r.map fun n=>V.int (n:Nat)) (r.map fun n=>PyData.int (n:Nat)):=by
    intro r
    induction r with
    | nil=>exact .nil
    | cons m r ih=>exact .cons (.int _) ih
   exact key (n :: r)
end
def Zk(K:YA)(n:Nat):Sp:=fun vs H Q _=>∃ v bv b base,vs=[v,.ref bv]∧Im K H v (.tuple (blkD b))∧Im K H (.ref bv) (ZcJ base)∧depL b < n∧(walkL base 0 b).length ≤ 100000∧base.length + 2 * n ≤ 1000 ∧
 ∀ p ws H',H p=none→Za [] H H'→H' p=some (.lst ws)→ImAll K H' ws ((walkL base 0 b).map Zgi)→Q (.ref p) H'
def ZbA(K:YA)(sp:Sp):TS:=(Y9 (Xk (Zbo YZ) (Y4 2))
 (Y9 (tFor (Zii K (YT (YS 0) YZ)) (gTup K 2 (gCons (Y4 3) (gCons (Y4 4) gNil))) (Y9 (Xk (tOp (rAdd K) (YS 1) (Zs K (YT (YS 3) YZ))) (Y4 5))
 (Y9 (Xn (tBM K "list" rAppend (YS 2) (YT (Zs K (YT (YS 5) (YT (YS 4) YZ))) YZ)))
 (tFor (Zii K (YT (Xm (Zb5 K) [] E0 (YT (YS 4) YZ)) YZ)) (gTup K 2 (gCons (Y4 6) (gCons (Y4 7) gNil))) (Xn (tBM K "list" rExtend (YS 2) (YT (Xm sp [] E0 (YT (YS 7) (YT (tOp (rAdd K) (YS 5) (Zs K (YT (YS 6) YZ))) YZ))) YZ)))))))
 (Xh (YS 2))))
def ZgA:List Str:=["block", "base", "found", "index", "statement", "path", "number", "inner"]
theorem Zfi{K:YA}{n:Nat}(vs:List V)(H:Hp)(Q:VK)(E:XK)(h:Zk K (n + 1) vs H Q E):ZbA K (Zk K n) { nx:=fun _ H'=>Q .non H',rt:=Q } (start ZgA vs) H:=by
 obtain⟨v,bv,b,base,rfl,hi,hb,hd,hn,hz,q⟩:=h
 show ZbA K _ _ [some v,some (.ref bv),none,none,none,none,none,none] H
 unfold ZbA
 have sl:=ZaF
 obtain⟨a,xs,rfl,hs,ha⟩:=hi.of_tup
 have hxl:xs.length=b.length:=by rw[ha.length,ZbI]
 row_readAll go
 refine Zbg (by row_readAll ln) fun l H1 hl k1 h1=>?_
 row_readAll go
 refine .inr ⟨⟨_,k1.sqT hs⟩,?_⟩
 refine ZkX (xs:=xs) (fun i σ' H'=>∃ ws o3 o4 o5 o6 o7,σ'=[some (.ref a),some (.ref bv),some (.ref l),o3,o4,o5,o6,o7]∧H' l=some (.lst ws)∧ImAll K H' ws ((walkL base 0 (b.take i)).map Zgi)∧Za [] H H')
  ⟨[],none,none,none,none,none,rfl,h1,by simpa[walkL]using .nil,k1⟩ (fun i σ' H' _ p=>by obtain⟨_,_,_,_,_,_,_,_,_,k⟩:=p; exact k.sqT hs) ?_ ?_
 ·rintro i x T σ' H2 H3 hx ⟨ws,o3,o4,o5,o6,o7,rfl,g2,w2,k2⟩ k3 hT
  obtain⟨d,hd2,hx2⟩:=ha.get hx
  obtain⟨s,hs2,rfl⟩:=ZjV hd2
  have hdep:=ZhA hs2
  have wsp:=Zhk base hs2
  have hwl:ws.length=(walkL base 0 (b.take i)).length:=by rw[w2.length,Yb]
  have hn2:(walkL base 0 (b.take i)).length + 1 + (s.sub (base++[i])).length ≤ 100000:=by
   rw[wsp]at hn
   simp only[Yc,Yd]at hn
   omega
  have hT3:SqT K H3 T [.int (i:Nat),x]:=hT
  refine ZiG hT3 ?_
  row_readAll go
  refine ZV (by row_readAll ln) fun p4 H4 f4 k4 g4=>?_
  have kk4:Za [] H H4:=(k2.trans k3).trans k4
  refine Zif (kk4.sqT hb.path) g4 (by simp; omega) fun p5 H5 k5 g5=>?_
  row_readAll go
  have kk5:Za [] H H5:=kk4.trans k5
  have kc5:Za [] H2 H5:=(k3.trans k4).trans k5
  have gl5:=kc5.obj _ _ Ya g2
  refine⟨.inl ⟨rfl,_,SqL.of gl5⟩,?_⟩
  refine ZV (by row_readAll ln) fun p6 H6 f6 k6 g6=>?_
  have gl6:=k6.obj _ _ Ya gl5
  refine Ze4 gl6 (by omega) fun H7 k7 g7=>?_
  have kk6:Za [] H H6:=kk5.trans k6
  have kk7:Za [] H H7:=kk6.step1 k7 hl
  have ip5:Im K H5 (.ref p5) (ZcJ (base++[i])):=ZfD (by simpa using g5)
  have w7:ImAll K H7 (ws++[.ref p6]) ((walkL base 0 (b.take i)++[(base++[i],s)]).map Zgi):=by
   rw[Yl]
   refine((w2.mono (kc5.trans k6)).mono k7).append (.cons ?_ .nil)
   exact .tup (k7.sqT g6) (.cons ((ip5.mono k6).mono k7) (.cons (hx2.mono kk7) .nil))
  row_readAll go
  refine⟨x,s,rfl,hx2.mono kk7,fun p8 H8 k8 i8=>?_⟩
  obtain⟨a8,ys,e8,hs8,ha8⟩:=i8.of_tup
  cases e8
  row_readAll go
  refine .inr ⟨⟨_,hs8⟩,?_⟩
  have kk8:Za [] H H8:=kk7.trans k8
  have ipath8:Im K H8 (.ref p5) (ZcJ (base++[i])):=((ip5.mono k6).mono k7).mono k8
  have ykl:ys.length=s.blocks.length:=by rw[ha8.length,Yb]
  refine ZkX (xs:=ys) (fun j σ' H'=>∃ ws o6 o7,σ'=[some (.ref a),some (.ref bv),some (.ref l),some (.int (i:Nat)),some x,some (.ref p5),o6,o7]∧H' l=some (.lst ws)∧ImAll K H' ws ((walkL base 0 (b.take i)++((base++[i],s) :: Zb6 (base++[i]) 0 (s.blocks.take j))).map Zgi)∧Za [] H H'∧KC [l] H8 H')
   ⟨_,_,_,rfl,k8.obj _ _ Ya g7,by simpa[Zb6]using w7.mono k8,kk8,⟨Za.refl _ _⟩⟩ (fun j σ' H' _ p=>by obtain⟨_,_,_,_,_,_,_,k⟩:=p; exact k.k.sqT hs8) ?_ ?_
  ·rintro j y T2 σ' H9 H10 hy ⟨ws9,o6,o7,rfl,g9,w9,k9,kc9⟩ k10 hT2
   obtain⟨dd,hdd,hyy⟩:=ha8.get hy
   rw[Ym,Option.map_eq_some_iff]at hdd
   obtain⟨b2,hb2,rfl⟩:=hdd
   have hdep2:=Zhm hb2
   have ssp:=Zhl (base++[i]) hb2
   have hsub:(s.sub (base++[i])).length=(Zb6 (base++[i]) 0 (s.blocks.take j)).length + ((walkL (base++[i]++[j]) 0 b2).length + (Zb6 (base++[i]) (j + 1) (s.blocks.drop (j + 1))).length):=by
    rw[Zj3,ssp,Yc,Yc]
   have kk10:Za [] H H10:=k9.trans k10
   have kc10:Za [l] H8 H10:=kc9.k.step0 k10
   refine ZiG hT2 ?_
   row_readAll go
   refine⟨.inl ⟨rfl,_,SqL.of (k10.obj _ _ Ya g9)⟩,?_⟩
   refine ZV (by row_readAll ln) fun p11 H11 f11 k11 g11=>?_
   have kc11:Za [l] H8 H11:=kc10.step0 k11
   refine Zif (kc11.sqT ipath8.path) g11 (by simp; omega) fun p12 H12 k12 g12=>?_
   have kc12:Za [l] H8 H12:=kc11.step0 k12
   refine⟨y,p12,b2,base++[i]++[j],rfl,hyy.mono kc12,ZfD (by simpa using g12),by omega,by omega,by simp; omega,fun p13 ws13 H13 f13 k13 g13 w13=>?_⟩
   have gl12:=k12.obj _ _ Ya (k11.obj _ _ Ya (k10.obj _ _ Ya g9))
   have gl13:=k13.obj _ _ Ya gl12
   have l9:=w9.length
   have l13:=w13.length
   simp only[Yb,Yc,Yd]at l9 l13
   refine Zmh gl13 g13 (by omega) fun H14 k14 g14=>?_
   have kc13:Za [] H9 H13:=((k10.trans k11).trans k12).trans k13
   refine⟨_,_,_,rfl,g14,?_,(k9.trans kc13).step1 k14 hl,⟨(kc9.k.step0 kc13).trans k14⟩⟩
   rw[ZiF _ hb2,← Yz,← Ys,Yl]
   exact((w9.mono kc13).mono k14).append (w13.mono k14)
  ·rintro σ' H9 ⟨ws9,o6,o7,rfl,g9,w9,k9,kc9⟩
   refine⟨ws9,_,_,_,_,_,rfl,g9,?_,k9⟩
   rw[ZiE base hs2,Zj3]
   rw[ykl,Yt]at w9
   exact w9
 ·rintro σ' H2 ⟨ws,o3,o4,o5,o6,o7,rfl,g2,w2,k2⟩
  row_readAll go
  refine q l ws H2 hl k2 g2 ?_
  rw[hxl,Yt]at w2
  exact w2
def Stm.okAt(p:Pth)(s:Stm):Bool:=decide (p.length / 2 ≤ 3) && s.names.all Zgg && s.exprs.all (Ex.ok 0)
def Ex.lay(e:Ex):Prop:=e.tx∧e.d.canLay0=true∧e.d.depth ≤ 60
def Stm.tx(s:Stm):Prop:=(∀ x∈s.names,x.length ≤ 4000∧PyData.strOk x=true)∧∀ e∈s.exprs,e.lay
def Zp7(b:List Stm):Prop:=∀ r∈walkL [] 0 b,r.2.tx
def ZeR(rows:List (Pth×Stm)):Option Pth:=(rows.find? fun r=>!r.2.okAt r.1).map (·.1)
def ZaT(index:Nat)(name:Str)(b:List Stm):Option Pth:=if 8 ≤ index∨Zgg name=false∨60 < (walkL [] 0 b).length then some []else ZeR (walkL [] 0 b)
def ZnZ(K:YA)(H:Hp)(o:Option Pth)(v:V):Prop:=match o with
 | none=>v = .non
 | some p=>∃ a,v = .ref a∧Im K H v (ZcJ p)
def ZhV:V→Bool
 | .str x=>!Zgg x
 | _=>false
theorem Zlt{K:YA}{H:Hp}:∀ l:List Str,DpAll K H (l.map V.str) (l.map PyData.str)
 | []=>.nil
 | x :: r=>.cons (.str x) (Zlt r)
theorem Zje(l:List Str):((l.map V.str).filter ZhV).isEmpty=l.all Zgg:=by
 rw[Zdx,List.all_map]
 congr 1
 funext x
 simp[ZhV]
theorem ImAll.filter{K:YA}{H:Hp}{f:V→Bool}:∀ {xs:List V} {ds:List PyData},ImAll K H xs ds→∃ es,ImAll K H (xs.filter f) es∧∀ e∈es,e∈ds
 | _,_,.nil=>⟨[],.nil,by simp⟩
 | x :: _,d :: _,.cons h t=>by
   obtain⟨es,h1,h2⟩:=ImAll.filter (f:=f) t
   rw[List.filter_cons]
   split
   ·exact⟨d :: es,.cons h h1,by intro e m; simp only[Yn]at m ⊢; rcases m with m | m; exact .inl m; exact .inr (h2 e m)⟩
   ·exact⟨es,h1,fun e m=>Yf _ (h2 e m)⟩
def ZR(K:YA):Sp:=fun vs H Q _=>∃ a v p s,vs=[.ref a,v]∧Im K H (.ref a) (ZcJ p)∧Im K H v (Stm.d s)∧s.tx∧∀ H',Za [] H H'→Q (.bl (s.okAt p)) H'
def Zah(K:YA)  : TS:=(Y9 (Xi (tOr (Xc (tOp Zl8 (Xm (Zct K) [] E0 (YT (YS 0) YZ)) (tC (.int 3)))) (Xc (tOp (Zie K) (tLc (ZjT K (Xm (Zcs K) [] E0 (YT (YS 1) YZ))) (Y4 3) (tNot (tB (Xm (Z6 K) [] E0 (YT (YS 3) YZ)))) (YS 3) [3]) (Zbo YZ)))) (Xh (tC (.bl false))) Xo)
 (Xh (tOp (ZbH K) (tLc (ZjT K (Xm (Zam K) [] E0 (YT (YS 1) YZ))) (Y4 2) (tNot (tB (Xm (Zg K 5) [] E0 (YT (YS 2) (YT (tC (.int 0)) YZ))))) (YS 2) [2]) (Zbo YZ))))
def Zeb:List Str:=["path", "statement", "expr", "name"]
theorem ZgB(s:Stm):s.exprs=[]∨∃ e,s.exprs=[e]:=by
 cases s <;> simp[Stm.exprs]
theorem Zc5{K:YA}(vs:List V)(H:Hp)(Q:VK)(E:XK)(h:ZR K vs H Q E):Zah K { nx:=fun _ H'=>Q .non H',rt:=Q } (start Zeb vs) H:=by
 obtain⟨a,v,p,s,rfl,hp,hi,ht,q⟩:=h
 show Zah K _ [some (.ref a),some v,none,none] H
 unfold Zah
 have sl:=ZaF
 row_readAll go
 refine⟨a,_,rfl,hp.path,?_⟩
 row_readAll go
 rw[Yb]
 refine Zbx (fun h1=>?_) (fun h1=>?_)
 ·row_readAll go
  have e:s.okAt p=false:=by
   unfold Stm.okAt
   rw[decide_eq_false (by omega)]
   simp
  rw[e]at q
  exact q H (Za.refl _ _)
 row_readAll go
 refine⟨v,s,rfl,hi,fun p1 H1 k1 s1=>?_⟩
 row_readAll go
 have ln:s.names.length ≤ 3:=by cases s <;> simp[Stm.names]
 refine .inr ⟨⟨_,s1⟩,?_⟩
 refine Ze8 ZhV (Wk.tup s1) (by simp; omega) (by simp) ?_ fun D H2 hD k2 h2=>?_
 ·intro i x H2 R hx k2 r
  simp only[Ym,Option.map_eq_some_iff]at hx
  obtain⟨z,hz,rfl⟩:=hx
  have t:=ht.1 z (Yj hz)
  row_readAll go
  refine Zfg t.1 t.2 fun H3 k3=>?_
  row_readAll go
  exact r H3 k3
 row_readAll go
 refine Zbg (by row_readAll ln) fun l3 H3 f3 k3 h3=>?_
 obtain⟨es,he,hm⟩:=Zgx (K:=K) (H:=H3) (f:=ZhV) (Zlt s.names)
 refine ZnB (k3.obj _ _ Ya h2) he h3 ((ZeM _).mpr fun d m=>?_) ?_
 ·have m2:=hm d m
  simp only[Yq]at m2
  obtain⟨z,hz,rfl⟩:=m2
  exact⟨by simp only[PyData.canLay0]; exact(ht.1 z hz).2,by simp[PyData.depth]⟩
 rw[Zje]
 have kk3:Za [] H H3:=(k1.trans k2).trans k3
 cases hn:s.names.all Zgg
 ·have e:s.okAt p=false:=by
   unfold Stm.okAt
   rw[hn]
   simp
  rw[e]at q
  row_readAll go
  exact q H3 kk3
 row_readAll go
 have eo:s.okAt p=s.exprs.all (Ex.ok 0):=by
  unfold Stm.okAt
  rw[hn,decide_eq_true (by omega)]
  simp
 rw[eo]at q
 refine⟨v,s,rfl,hi.mono kk3,fun p4 H4 k4 i4=>?_⟩
 obtain⟨a4,xs,e4,s4,ha4⟩:=i4.of_tup
 cases e4
 row_readAll go
 have lx:xs.length ≤ 1:=by
  rw[ha4.length,Yb]
  rcases ZgB s with e | ⟨e0,e⟩ <;> rw[e] <;> simp
 refine .inr ⟨⟨_,s4⟩,?_⟩
 have kk4:Za [] H H4:=kk3.trans k4
 refine Ze8 (fun _=>!(s.exprs.all (Ex.ok 0))) (Wk.tup s4) (by omega) (by simp) ?_ fun D5 H5 hD5 k5 h5=>?_
 ·intro i x H5 R hx k5 r
  obtain⟨d,hd,hxd⟩:=ha4.get hx
  rw[Ym,Option.map_eq_some_iff]at hd
  obtain⟨e,he2,rfl⟩:=hd
  have hall:s.exprs.all (Ex.ok 0)=e.ok 0:=by
   rcases ZgB s with e1 | ⟨e0,e1⟩
   ·rw[e1]at he2; simp at he2
   ·rw[e1]at he2 ⊢
    have hi0:=ZeF he2
    have:i=0:=by simp at hi0; omega
    subst this
    simp at he2
    subst he2
    simp
  row_readAll go
  refine ZnY (ops:=0) (hxd.mono k5) (ht.2 e (Yj he2)).1 rfl (by decide) fun H6 k6=>?_
  row_readAll go
  rw[hall]at r
  exact r H6 k6
 row_readAll go
 refine Zbg (by row_readAll ln) fun l6 H6 f6 k6 h6=>?_
 obtain⟨es2,he2,hm2⟩:=(ha4.mono (k5.trans k6)).filter (f:=fun _=>!(s.exprs.all (Ex.ok 0)))
 refine Zi_ (k6.obj _ _ Ya h5) he2.dp h6 ((ZeM _).mpr fun d m=>?_) ?_
 ·have m2:=hm2 d m
  simp only[Yq]at m2
  obtain⟨z,hz,rfl⟩:=m2
  have t:=(ht.2 z hz).2
  exact⟨t.1,by omega⟩
 have e9:(xs.filter fun _=>!(s.exprs.all (Ex.ok 0))).isEmpty=s.exprs.all (Ex.ok 0):=by
  have lx2:xs.length=s.exprs.length:=by rw[ha4.length,Yb]
  rw[Zdx]
  rcases ZgB s with e1 | ⟨e0,e1⟩
  ·rw[e1]at lx2 ⊢
   cases xs with
   | nil=>simp
   | cons=>simp at lx2
  ·rw[e1]at lx2 ⊢
   cases xs with
   | nil=>simp at lx2
   | cons x r=>cases r with
     | nil=>simp
     | cons=>simp at lx2
 rw[e9]
 exact q H6 ((kk4.trans k5).trans k6)
def Zbh(K:YA):Sp:=fun vs H Q _=>∃ v b name,∃ index:Nat,vs=[.int index,.str name,v]∧Im K H v (.tuple (blkD b))∧depL b < 10∧(walkL [] 0 b).length ≤ 100000∧Zp7 b∧name.length ≤ 4000∧PyData.strOk name=true ∧
 ∀ r H',Za [] H H'→ZnZ K H' (ZaT index name b) r→Q r H'
def Zcj(K:YA)  : TS:=(Y9 (Xk (Xm (Zk K 10) [] E0 (YT (YS 2) (YT (Zs K YZ) YZ))) (Y4 3))
 (Y9 (Xi (tOr (Xc (tOp ZsD (YS 0) (tC (.int 8)))) (tOr (tNot (tB (Xm (Z6 K) [] E0 (YT (YS 1) YZ)))) (Xc (tOp Zl8 (tCB (rLen K) (YT (YS 3) YZ)) (tC (.int 60)))))) (Xh (Zs K YZ)) Xo)
 (Y9 (tFor (ZjT K (YS 3)) (gTup K 2 (gCons (Y4 4) (gCons (Y4 5) gNil))) (Xi (tNot (tB (Xm (ZR K) [] E0 (YT (YS 4) (YT (YS 5) YZ))))) (Xh (YS 4)) Xo))
 (Xh (tC .non)))))
def ZhW:List Str:=["index", "name", "block", "statements", "path", "statement"]
theorem Zlu{α : Type}{f : α→Bool}{xs:List α}{i:Nat}{x : α}(h:∀ y∈xs.take i,f y=false)(e:xs[i]? = some x)(t:f x=true):xs.find? f=some x:=by
 rw[ZhU e,List.find?_append,List.find?_eq_none.mpr (fun y m=>by simp[h y m])]
 simp[t]
theorem Zf5{K:YA}(vs:List V)(H:Hp)(Q:VK)(E:XK)(h:Zbh K vs H Q E):Zcj K { nx:=fun _ H'=>Q .non H',rt:=Q } (start ZhW vs) H:=by
 obtain⟨v,b,name,index,rfl,hi,hd,hw,hb,hl,ho,q⟩:=h
 show Zcj K _ [some (.int index),some (.str name),some v,none,none,none] H
 unfold Zcj
 have sl:=ZaF
 row_readAll go
 refine ZV (by row_readAll ln) fun p1 H1 f1 k1 s1=>?_
 refine⟨v,p1,b,[],rfl,hi.mono k1,ZfD s1,hd,hw,by simp,fun l ws H2 f2 k2 h2 w2=>?_⟩
 have kk2:Za [] H H2:=k1.trans k2
 have lw:=w2.length
 rw[Yb]at lw
 have out:∀ H',Za [] H2 H'→ZaT index name b=some []→mkT K [] H' (fun r H'=>Q r H'):=fun H' k e=>ZV (by row_readAll ln) fun p H3 f k3 s3=>q _ H3 (kk2.trans (k.trans k3)) (by rw[e]; exact⟨p,rfl,ZfD s3⟩)
 row_readAll go
 refine Zbx (fun h8=>?_) (fun h8=>?_)
 ·row_readAll go
  exact out H2 (Za.refl _ _) (by unfold ZaT; rw[if_pos (.inl (by omega))])
 row_readAll go
 refine Zfg hl ho fun H3 k3=>?_
 cases hz:Zgg name
 ·row_readAll go
  exact out H3 k3 (by unfold ZaT; rw[if_pos (.inr (.inl hz))])
 row_readAll go
 refine ZcN (SqL.of (k3.obj _ _ Ya h2)) ?_
 row_readAll go
 refine Zbx (fun h60=>?_) (fun h60=>?_)
 ·row_readAll go
  exact out H3 k3 (by unfold ZaT; rw[if_pos (.inr (.inr (by omega)))])
 have e0:ZaT index name b=ZeR (walkL [] 0 b):=by
  unfold ZaT
  rw[if_neg]
  rintro(h | h | h)
  ·omega
  ·rw[hz]at h; cases h
  ·omega
 rw[e0]at q
 have kk3:Za [] H H3:=kk2.trans k3
 row_readAll go
 refine .inl ⟨⟨_,SqL.of (k3.obj _ _ Ya h2)⟩,?_⟩
 refine Zg6 (S:=[]) (Wk.lst (SqL.of (k3.obj _ _ Ya h2)) Ya) (fun i σ' H'=>∃ o4 o5,σ'=[some (.int index),some (.str name),some v,some (.ref l),o4,o5]∧Za [] H3 H'∧∀ r∈(walkL [] 0 b).take i,r.2.okAt r.1=true) (fun i σ' H' p=>by obtain⟨_,_,_,k,_⟩:=p; exact k) ⟨none,none,rfl,Za.refl _ _,by simp⟩ ?_ ?_
 ·rintro i x σ' H4 H5 hx ⟨o4,o5,rfl,k4,g4⟩ k5
  obtain⟨d,hd2,hx2⟩:=w2.get hx
  rw[Ym,Option.map_eq_some_iff]at hd2
  obtain⟨⟨p,s⟩,hr,rfl⟩:=hd2
  obtain⟨a,xs,rfl,sx,ax⟩:=hx2.of_tup
  obtain⟨v0,r,rfl,i0,ax⟩:=ax.of_cons
  obtain⟨v1,r,rfl,i1,ax⟩:=ax.of_cons
  cases ax.of_nil
  obtain⟨a0,xs0,rfl,_,_⟩:=i0.of_tup
  have kk5:Za [] H2 H5:=k3.trans (k4.trans k5)
  refine ZiG (kk5.sqT sx) ?_
  row_readAll go
  refine⟨a0,v1,p,s,rfl,i0.mono kk5,i1.mono kk5,hb _ (Yj hr),fun H6 k6=>?_⟩
  cases ht:s.okAt p
  ·row_readAll go
   refine q _ H6 (kk2.trans (kk5.trans k6)) ?_
   have e1:ZeR (walkL [] 0 b)=some p:=by
    unfold ZeR
    rw[Zlu (x:=(p,s)) (fun y m=>by simp[g4 y m]) hr (by simp[ht])]
    rfl
   rw[e1]
   exact⟨a0,rfl,(i0.mono kk5).mono k6⟩
  ·row_readAll go
   refine⟨_,_,rfl,(k4.trans k5).trans k6,fun y m=>?_⟩
   rw[take_snoc hr]at m
   simp only[Yh,Ye]at m
   rcases m with m | rfl
   ·exact g4 y m
   ·exact ht
 ·rintro σ' H4 ⟨o4,o5,rfl,k4,g4⟩
  row_readAll go
  refine q _ H4 (kk3.trans k4) ?_
  have e1:ZeR (walkL [] 0 b)=none:=by
   unfold ZeR
   rw[lw,Yt]at g4
   rw[List.find?_eq_none.mpr (fun y m=>by simp[g4 y m])]
   rfl
  rw[e1]
  exact rfl
mutual
def Stm.cnt:Stm→Nat
 | .fn _ b=>cntL b + 1
 | .ite _ b o=>cntL b + cntL o + 1
 | .tri _ b h=>cntL b + cntL h + 1
 | _=>1
def cntL:List Stm→Nat
 | []=>0
 | s :: r=>s.cnt + cntL r
end
theorem ZeS(a b:List Stm):cntL (a++b)=cntL a + cntL b:=by
 induction a with
 | nil=>simp[cntL]
 | cons x r ih=>simp only[Yz,cntL,ih]; omega
mutual
def Stm.over(ms ns:List Str):Stm→Prop
 | .set n e=>n∈ns∧e.over ns
 | .del n=>n∈ns
 | .shw e=>e.over ns
 | .call e=>e.over ns
 | .raise=>True
 | .imp m n=>m∈ms∧n∈ns
 | .frm m w n=>m∈ms∧w∈ns∧n∈ns
 | .star m=>m∈ms
 | .fn n b=>n∈ns∧overL ms ns b
 | .ite e b o=>e.over ns∧overL ms ns b∧overL ms ns o
 | .tri _ b h=>overL ms ns b∧overL ms ns h
def overL(ms ns:List Str):List Stm→Prop
 | []=>True
 | s :: r=>s.over ms ns∧overL ms ns r
end
theorem ZcV(ms ns:List Str):∀ b:List Stm,overL ms ns b↔∀ s∈b,s.over ms ns
 | []=>by simp[overL]
 | s :: r=>by simp[overL,ZcV ms ns r]
mutual
def Stm.nar:Stm→Prop
 | .fn _ b=>b.length ≤ 2∧narL b
 | .ite _ b o=>b.length ≤ 2∧o.length ≤ 2∧narL b∧narL o
 | .tri _ b h=>b.length ≤ 2∧h.length ≤ 2∧narL b∧narL h
 | _=>True
def narL:List Stm→Prop
 | []=>True
 | s :: r=>s.nar∧narL r
end
theorem Zd5:∀ b:List Stm,narL b↔∀ s∈b,s.nar
 | []=>by simp[narL]
 | s :: r=>by simp[narL,Zd5 r]
theorem Zjf:∀ s:Stm,1 ≤ s.cnt:=fun s=>by cases s <;> simp[Stm.cnt]
theorem Zd6{b:List Stm}(h:cntL b=0):b=[]:=by
 cases b with
 | nil=>rfl
 | cons s r=>have:=Zjf s; simp only[cntL]at h; omega
theorem Zlv{s:Stm}(h:s.cnt ≤ 1):s.nar:=by
 cases s with
 | fn x b=>simp only[Stm.cnt]at h; rw[Zd6 (show cntL b=0 by omega)]; simp[Stm.nar,narL]
 | ite e b o=>simp only[Stm.cnt]at h; rw[Zd6 (show cntL b=0 by omega),Zd6 (show cntL o=0 by omega)]; simp[Stm.nar,narL]
 | tri k b o=>simp only[Stm.cnt]at h; rw[Zd6 (show cntL b=0 by omega),Zd6 (show cntL o=0 by omega)]; simp[Stm.nar,narL]
 | _=>trivial
theorem Zfj{b:List Stm}(h:cntL b ≤ 1):b.length ≤ 2∧narL b:=by
 cases b with
 | nil=>exact⟨YP _,trivial⟩
 | cons s r =>
   have:=Zjf s
   simp only[cntL]at h
   rw[Zd6 (show cntL r=0 by omega)]
   exact⟨by simp,Zlv (by omega),trivial⟩
theorem Zn0{s:Stm}(h:s.cnt ≤ 2):s.nar:=by
 cases s with
 | fn x b=>simp only[Stm.cnt]at h; exact Zfj (by omega)
 | ite e b o=>simp only[Stm.cnt]at h; have h1:=Zfj (b:=b) (by omega); have h2:=Zfj (b:=o) (by omega); exact⟨h1.1,h2.1,h1.2,h2.2⟩
 | tri k b o=>simp only[Stm.cnt]at h; have h1:=Zfj (b:=b) (by omega); have h2:=Zfj (b:=o) (by omega); exact⟨h1.1,h2.1,h1.2,h2.2⟩
 | _=>trivial
def noMod:Str := "nomodule"
theorem Zmr:okN noMod:=Zj2 (by decide +kernel)
def stN:Nat→Nat
 | 0=>13 | 1=>3 | _=>1
structure DSt(ms ns:List Str)(d:Nat)(s:Stm):Prop where
 wf:s.wf
 over:s.over (noMod :: ms) ns
 dep:s.dep + d ≤ 2
 cnt:s.cnt ≤ stN d
 nar:s.nar
theorem DSt.leaf{ms ns:List Str}{d:Nat}{s:Stm}(w:s.wf)(o:s.over (noMod :: ms) ns)(d2:d ≤ 2)(e:s.dep=0)(c:s.cnt=1):DSt ms ns d s :=
 ⟨w,o,by omega,by rw[c]; have:d=0∨d=1∨d=2:=by omega
                  rcases this with rfl | rfl | rfl <;> decide,Zlv (by omega)⟩
def Zcu(K:YA):Sp:=fun vs H Q _=>∃ h c ml nl ms ns,vs=[.ref h,.ref ml,.ref nl]∧Drw H h c∧NL H h c ml ms∧NL H h c nl ns ∧
 ∀ v s H',Im K H' v (Stm.d s)→(∀ d,d ≤ 2→DSt ms ns d s)→Za [h,c] H H'→Drw H' h c→NL H' h c ml ms→NL H' h c nl ns→Q v H'
def Zd7(K:YA)  : TS:=(Y9 (Xk (tIf (Xc (tOp Zl8 (Xm (Zb K) [] E0 (YT (YS 0) (YT (tC (.int 12)) YZ))) (tC (.int 0)))) (tOp (rIx K) (YS 1) (Xm (Zb K) [] E0 (YT (YS 0) (YT (tCB (rLen K) (YT (YS 1) YZ)) YZ)))) (tC (.str "nomodule"))) (Y4 3))
 (Y9 (tPar3 4 5 6 (YT (tOp (rIx K) (YS 2) (Xm (Zb K) [] E0 (YT (YS 0) (YT (tCB (rLen K) (YT (YS 2) YZ)) YZ)))) (YT (tOp (rIx K) (YS 2) (Xm (Zb K) [] E0 (YT (YS 0) (YT (tCB (rLen K) (YT (YS 2) YZ)) YZ)))) (YT (Xm (Zb K) [] E0 (YT (YS 0) (YT (tC (.int 5)) YZ))) YZ))))
 (Y9 (Xi (Xc (tOp Zl4 (YS 6) (tC (.int 2)))) (Xh (Zs K (YT (tC (.str "\x69mport")) (YT (YS 3) (YT (YS 4) YZ))))) Xo)
 (Xh (tIf (Xc (tOp Zl4 (YS 6) (tC (.int 4)))) (Zs K (YT (tC (.str "from")) (YT (YS 3) (YT (YS 5) (YT (YS 4) YZ))))) (Zs K (YT (tC (.str "star")) (YT (YS 3) YZ))))))))
def ZkC:List Str:=["_law_h", "_law_modules", "_law_names_here", "_law_target", "_law_name_here", "_law_wanted", "_law_kind"]
theorem Zms{K:YA}{H:Hp}{Q:VK}{E:XK}{h c ml:YD}{ms:List Str}{u:Int}(D:Drw H h c)(M:NL H h c ml ms)(q:∀ x H',x∈noMod :: ms→okN x→Za [h,c] H H'→Drw H' h c→Q (.str x) H') :
  if decide (0 < u)=true then rLen K [.ref ml] H (fun x H1=>Zb K [.ref h,x] H1 (fun y H2=>rIx K (.ref ml) y H2 Q) E)else Q (.str (YN "nomodule")) H :=
 Zbx (fun _=>M.draw D fun x H' m o k D' _=>q x H' (Yf _ m) o k D') fun _=>q _ H Yg Zmr (Za.refl _ _) D
theorem ZhX{K:YA}(vs:List V)(H:Hp)(Q:VK)(E:XK)(h:Zcu K vs H Q E):Zd7 K { nx:=fun _ H'=>Q .non H',rt:=Q } (start ZkC vs) H:=by
 obtain⟨h,c,ml,nl,ms,ns,rfl,D,M,N,q⟩:=h
 show Zd7 K _ [some (.ref h),some (.ref ml),some (.ref nl),none,none,none,none] H
 unfold Zd7
 row_readAll go
 refine ZgU D (by decide) (by decide) fun u H1 u0 u1 k1 D1=>?_
 row_readAll go
 refine Zms D1 (M.keep k1) fun t H2 mt ot k2 D2=>?_
 have k12:KC [h,c] H H2:=⟨k1.trans k2⟩
 row_readAll go
 refine(N.keep k12.k).draw D2 fun x H3 mx ox k3 D3 N3=>?_
 row_readAll go
 refine N3.draw D3 fun y H4 my oy k4 D4 N4=>?_
 row_readAll go
 refine ZgU D4 (by decide) (by decide) fun w H5 w0 w1 k5 D5=>?_
 have k15:KC [h,c] H H5:=⟨((k12.k.trans k3).trans k4).trans k5⟩
 row_readAll go
 have fin:∀ (p:YD) (s:Stm) (H6:Hp),Za [] H5 H6→Im K H6 (.ref p) s.d→s.wf→s.over (noMod :: ms) ns→s.dep=0→s.cnt=1→Q (.ref p) H6:=fun p s H6 k6 i w o e1 e2=>by
  have kk:Za [h,c] H H6:=k15.k.step0 k6
  exact q (.ref p) s H6 i (fun d hd=>.leaf w o hd e1 e2) kk (D5.k0 k6) (M.keep kk) (N.keep kk)
 refine Zbx (fun h2=>?_) (fun h2=>?_)
 ·row_readAll go
  refine ZV (by row_readAll ln) fun p H6 f6 k6 g6=>?_
  refine fin p (.imp t x) H6 k6 ?_ (by simp only[Stm.wf]; exact⟨ot,ox⟩) (by simp only[Stm.over]; exact⟨mt,mx⟩) rfl rfl
  simp only[Stm.d]
  exact .tup g6 (.cons (.str _) (.cons (.str _) (.cons (.str _) .nil)))
 row_readAll go
 refine Zbx (fun h4=>?_) (fun h4=>?_)
 ·row_readAll go
  refine ZV (by row_readAll ln) fun p H6 f6 k6 g6=>?_
  refine fin p (.frm t y x) H6 k6 ?_ (by simp only[Stm.wf]; exact⟨ot,oy,ox⟩) (by simp only[Stm.over]; exact⟨mt,my,mx⟩) rfl rfl
  simp only[Stm.d]
  exact .tup g6 (.cons (.str _) (.cons (.str _) (.cons (.str _) (.cons (.str _) .nil))))
 ·row_readAll go
  refine ZV (by row_readAll ln) fun p H6 f6 k6 g6=>?_
  refine fin p (.star t) H6 k6 ?_ (by simp only[Stm.wf]; exact ot) (by simp only[Stm.over]; exact mt) rfl rfl
  simp only[Stm.d]
  exact .tup g6 (.cons (.str _) (.cons (.str _) .nil))
structure MN(H:Hp)(h c ml nl:YD)(ms ns:List Str):Prop where
 d:Drw H h c
 m:NL H h c ml ms
 n:NL H h c nl ns
theorem MN.keep{H H':Hp}{h c ml nl:YD}{ms ns:List Str}(x:MN H h c ml nl ms ns)(k:Za [h,c] H H')(d:Drw H' h c):MN H' h c ml nl ms ns:=⟨d,x.m.keep k,x.n.keep k⟩
theorem MN.k0{H H':Hp}{h c ml nl:YD}{ms ns:List Str}(x:MN H h c ml nl ms ns)(k:Za [] H H'):MN H' h c ml nl ms ns:=⟨x.d.k0 k,x.m.k0 k,x.n.k0 k⟩
def Z0(K:YA)(n:Nat):Sp:=fun vs H Q _=>∃ h c ml nl ms ns,∃ d:Nat,vs=[.ref h,.ref ml,.ref nl,.int d]∧MN H h c ml nl ms ns∧d ≤ 2∧2 < n + d ∧
 ∀ v s H',Im K H' v (Stm.d s)→DSt ms ns d s→Za [h,c] H H'→MN H' h c ml nl ms ns→Q v H'
def Z1(K:YA)(n:Nat):Sp:=fun vs H Q _=>∃ h c ml nl ms ns,∃ d most:Nat,vs=[.ref h,.ref ml,.ref nl,.int d,.int most]∧MN H h c ml nl ms ns∧d ≤ 2∧2 < n + d∧most ≤ 1000 ∧
 ∀ v b H',Im K H' v (.tuple (blkD b))→(∀ s∈b,DSt ms ns d s)→b.length ≤ most→Za [h,c] H H'→MN H' h c ml nl ms ns→Q v H'
def ZbB(K:YA)(sp:Sp):TS:=(Y9 (tPar 7 8 (YT (Xm (Zb K) [] E0 (YT (YS 0) (YT (tC (.int 17)) YZ))) (YT (tOp (rIx K) (YS 2) (Xm (Zb K) [] E0 (YT (YS 0) (YT (tCB (rLen K) (YT (YS 2) YZ)) YZ)))) YZ)))
 (Y9 (Xi (Xc (tOp Zl4 (YS 7) (tC (.int 5)))) (Xh (Xm (Zcu K) [] E0 (YT (YS 0) (YT (YS 1) (YT (YS 2) YZ))))) Xo)
 (Y9 (Xi (tOr (Xc (tOp Zl4 (YS 7) (tC (.int 8)))) (tAnd (Xc (tOp Zl8 (YS 7) (tC (.int 12)))) (Xc (tOp Zl8 (YS 3) (tC (.int 1)))))) (Xh (Zs K (YT (tC (.str "set")) (YT (YS 8) (YT (Xm (ZO K 5) [] E0 (YT (YS 0) (YT (YS 2) (YT (tC (.int 2)) YZ)))) YZ))))) Xo)
 (Y9 (Xi (Xc (tOp Zl4 (YS 7) (tC (.int 11)))) (Xh (tOp (rIx K) (Zbo (YT (Zs K (YT (tC (.str "del")) (YT (YS 8) YZ))) (YT (Zs K (YT (tC (.str "show")) (YT (Xm (ZO K 5) [] E0 (YT (YS 0) (YT (YS 2) (YT (tC (.int 2)) YZ)))) YZ))) (YT (Zs K (YT (tC (.str "show")) (YT (Zs K (YT (tC (.str "name")) (YT (YS 8) YZ))) YZ))) YZ)))) (tOp Zhx (YS 7) (tC (.int 8))))) Xo)
 (Y9 (Xi (Xc (tOp (ZbH K) (YS 7) (tC (.int 11)))) (Xh (Zs K (YT (tC (.str "call")) (YT (tIf (Xc (tOp Zl8 (Xm (Zb K) [] E0 (YT (YS 0) (YT (tC (.int 4)) YZ))) (tC (.int 0)))) (Zs K (YT (tC (.str "name")) (YT (YS 8) YZ))) (Xm (ZO K 5) [] E0 (YT (YS 0) (YT (YS 2) (YT (tC (.int 1)) YZ))))) YZ)))) Xo)
 (Y9 (Xi (Xc (tOp (ZbH K) (YS 7) (tC (.int 12)))) (Xh (tIf (Xc (tOp (ZbH K) (Xm (Zb K) [] E0 (YT (YS 0) (YT (tC (.int 3)) YZ))) (tC (.int 0)))) (Zs K (YT (tC (.str "raise")) YZ)) (Zs K (YT (tC (.str "show")) (YT (Xm (ZL K) [] E0 (YT (YS 0) YZ)) YZ))))) Xo)
 (Y9 (Xk (Xm sp [] E0 (YT (YS 0) (YT (YS 1) (YT (YS 2) (YT (tOp (rAdd K) (YS 3) (tC (.int 1))) (YT (tOp Zhx (tC (.int 2)) (YS 3)) YZ)))))) (Y4 4))
 (Y9 (Xk (Xm sp [] E0 (YT (YS 0) (YT (YS 1) (YT (YS 2) (YT (tOp (rAdd K) (YS 3) (tC (.int 1))) (YT (tOp Zhx (tC (.int 2)) (YS 3)) YZ)))))) (Y4 5))
 (Y9 (Xi (Xc (tOp (ZbH K) (YS 7) (tC (.int 13)))) (Xh (Zs K (YT (tC (.str "def")) (YT (YS 8) (YT (YS 4) YZ))))) Xo)
 (Y9 (Xi (Xc (tOp (ZbH K) (YS 7) (tC (.int 14)))) (Xh (Zs K (YT (tC (.str "if")) (YT (Xm (ZO K 5) [] E0 (YT (YS 0) (YT (YS 2) (YT (tC (.int 1)) YZ)))) (YT (YS 4) (YT (YS 5) YZ)))))) Xo)
 (Y9 (Xk (Zbo (YT (tC (.str "absent")) (YT (tC (.str "kind")) (YT (tC (.str "missing")) (YT (tC (.str "raised")) (YT (tC (.str "unbound")) (YT (tC (.str "any")) (YT (tC (.str "any")) (YT (tC (.str "any")) YZ))))))))) (Y4 6))
 (Xh (Zs K (YT (tC (.str "try")) (YT (tOp (rIx K) (YS 6) (Xm (Zb K) [] E0 (YT (YS 0) (YT (tC (.int 8)) YZ)))) (YT (YS 4) (YT (YS 5) YZ)))))))))))))))))
def ZgC:List Str:=["_law_h", "_law_modules", "_law_names_here", "_law_depth", "_law_block", "_law_other", "_law_kinds", "_law_kind", "_law_name_here"]
def Zd8(K:YA)(sp:Sp):TS:=(Xh (tThen (tLc (iRng1 (YT (Xm (Zb K) [] E0 (YT (YS 0) (YT (tOp (rAdd K) (YS 4) (tC (.int 1))) YZ))) YZ)) (Y4 5) tYes (Xm sp [] E0 (YT (YS 0) (YT (YS 1) (YT (YS 2) (YT (YS 3) YZ))))) [5]) (kTup K)))
def ZkD:List Str:=["_law_h", "_law_modules", "_law_names_here", "_law_depth", "_law_most", "_law_k"]
theorem Zj4{K:YA}{n:Nat}{H:Hp}{Q:VK}{E:XK}{h c ml nl:YD}{ms ns:List Str}{d most:Nat}{di mi:Int}(x:MN H h c ml nl ms ns)(ed:di=(d:Nat))(em:mi=(most:Nat))(d2:d ≤ 2)(dn : 2 < n + d)(m:most ≤ 1000)
  (q:∀ v b H',Im K H' v (.tuple (blkD b))→(∀ s∈b,DSt ms ns d s)→b.length ≤ most→Za [h,c] H H'→MN H' h c ml nl ms ns→Q v H'):Z1 K n [.ref h,.ref ml,.ref nl,.int di,.int mi] H Q E:=by
 subst ed em
 exact⟨h,c,ml,nl,ms,ns,d,most,rfl,x,d2,dn,m,q⟩
theorem ZgD{ms ns:List Str}{d:Nat}{b:List Stm}(h:∀ s∈b,DSt ms ns d s):wfL b∧overL (noMod :: ms) ns b∧depL b + d ≤ max 2 d∧cntL b ≤ b.length * stN d:=by
 induction b with
 | nil=>simp[wfL,overL,depL,cntL]; omega
 | cons x r ih =>
   obtain⟨a1,a2,a3,a4⟩:=ih fun s m=>h s (Yf _ m)
   have hx:=h x Yg
   have:=hx.dep
   have:=hx.cnt
   refine⟨by simp only[wfL]; exact⟨hx.wf,a1⟩,by simp only[overL]; exact⟨hx.over,a2⟩,by simp only[depL]; omega,?_⟩
   simp only[cntL,Yd,Nat.succ_mul]
   omega
theorem Zfk{ms ns:List Str}{d:Nat}{b:List Stm}(h:∀ s∈b,DSt ms ns d s):narL b:=(Zd5 b).mpr fun s m=>(h s m).nar
def ZiH:List Str:=["absent", "kind", "missing", "raised", "unbound", "any", "any", "any"]
theorem Zlw:∀ x∈ZiH,x∈kinds:=by
 intro x m
 unfold ZiH at m
 unfold kinds
 simp only[Yn,Ya,or_false]at m ⊢
 rcases m with rfl | rfl | rfl | rfl | rfl | rfl | rfl | rfl <;> simp
theorem Ztg{p8 p12 p1:Prop} [Decidable p8] [Decidable p12] [Decidable p1] {A R:Prop} (ha:A) (hr:¬ p8→¬ (p12∧p1)→R) :
  if decide p8=true then A else if decide p12=true then(if decide p1=true then A else R)else R:=by
 refine Zbx (fun _=>ha) fun h8=>?_
 refine Zbx (fun h12=>Zbx (fun _=>ha) fun h1=>hr h8 fun z=>h1 z.2) fun h12=>hr h8 fun z=>h12 z.1
theorem Zfl{K:YA}{n:Nat}(vs:List V)(H:Hp)(Q:VK)(E:XK)(h:Z0 K (n + 1) vs H Q E):ZbB K (Z1 K n) { nx:=fun _ H'=>Q .non H',rt:=Q } (start ZgC vs) H:=by
 obtain⟨h,c,ml,nl,ms,ns,d,rfl,X,d2,dn,q⟩:=h
 show ZbB K _ _ [some (.ref h),some (.ref ml),some (.ref nl),some (.int d),none,none,none,none,none] H
 unfold ZbB
 row_readAll go
 refine ZgU X.d (by decide) (by decide) fun u H1 u0 u1 k1 D1=>?_
 have X1:=X.keep k1 D1
 row_readAll go
 refine X1.n.draw D1 fun z H2 mz oz k2 D2 _=>?_
 have X2:=X1.keep k2 D2
 have k12:KC [h,c] H H2:=⟨k1.trans k2⟩
 row_readAll go
 have leaf:∀ (p:YD) (s:Stm) (H6:Hp),Za [h,c] H2 H6→MN H6 h c ml nl ms ns→Im K H6 (.ref p) s.d→s.wf→s.over (noMod :: ms) ns→s.dep=0→s.cnt=1→Q (.ref p) H6:=fun p s H6 k6 X6 i w o e1 e2=>q (.ref p) s H6 i (.leaf w o d2 e1 e2) (k12.k.trans k6) X6
 refine Zbx (fun h5=>?_) (fun h5=>?_)
 ·row_readAll go
  exact⟨h,c,ml,nl,ms,ns,rfl,X2.d,X2.m,X2.n,fun v s H3 i3 s3 k3 D3 M3 N3=>q v s H3 i3 (s3 d d2) (k12.k.trans k3) ⟨D3,M3,N3⟩⟩
 row_readAll go
 refine Ztg ?_ fun h8 h12=>?_
 ·row_readAll go
  refine Zoz X2.d X2.n (by decide) (by decide) fun v e H4 i4 w4 o4 k4 D4 N4=>?_
  refine ZV (by row_readAll ln) fun p5 H5 f5 k5 g5=>?_
  refine leaf p5 (.set z e) H5 (k4.step0 k5) ((X2.keep k4 D4).k0 k5) ?_ (by simp only[Stm.wf]; exact⟨oz,w4.mono (by decide)⟩) (by simp only[Stm.over]; exact⟨mz,o4⟩) rfl rfl
  simp only[Stm.d]
  exact .tup g5 (.cons (.str _) (.cons (.str _) (.cons (i4.mono k5) .nil)))
 row_readAll go
 refine Zbx (fun h11=>?_) (fun h11=>?_)
 ·row_readAll go
  refine ZV (by row_readAll ln) fun p4 H4 f4 k4 g4=>?_
  row_readAll go
  have X4:=X2.k0 k4
  refine Zoz X4.d X4.n (by decide) (by decide) fun v5 e5 H5 i5 w5 o5 k5 D5 N5=>?_
  refine ZV (by row_readAll ln) fun p6 H6 f6 k6 g6=>?_
  row_readAll go
  refine ZV (by row_readAll ln) fun p7 H7 f7 k7 g7=>?_
  row_readAll go
  refine ZV (by row_readAll ln) fun p8 H8 f8 k8 g8=>?_
  refine Zbg (by row_readAll ln) fun pa Ha fa ka ga=>?_
  row_readAll go
  have k6a:Za [] H6 Ha:=(k7.trans k8).trans ka
  have Xa:MN Ha h c ml nl ms ns:=((X4.keep k5 D5).k0 k6).k0 k6a
  have kk:Za [h,c] H2 Ha:=((k4.nil.trans k5).step0 k6).step0 k6a
  have hu:u=8∨u=9∨u=10:=by omega
  rcases hu with rfl | rfl | rfl
  ·refine ZaA (SqL.of ga) rfl ?_
   refine leaf p4 (.del z) Ha kk Xa ?_ (by simp only[Stm.wf]; exact oz) (by simp only[Stm.over]; exact mz) rfl rfl
   simp only[Stm.d]
   exact .tup (k6a.sqT (k6.sqT (k5.sqT g4))) (.cons (.str _) (.cons (.str _) .nil))
  ·refine ZaA (SqL.of ga) rfl ?_
   refine leaf p6 (.shw e5) Ha kk Xa ?_ (by simp only[Stm.wf]; exact w5.mono (by decide)) (by simp only[Stm.over]; exact o5) rfl rfl
   simp only[Stm.d]
   exact .tup (k6a.sqT g6) (.cons (.str _) (.cons ((i5.mono k6).mono k6a) .nil))
  ·refine ZaA (SqL.of ga) rfl ?_
   refine leaf p8 (.shw (.nm z)) Ha kk Xa ?_ (by simp only[Stm.wf]; exact oz) (by simp only[Stm.over]; exact mz) rfl rfl
   simp only[Stm.d,Ex.d]
   exact .tup (ka.sqT g8) (.cons (.str _) (.cons (.tup (ka.sqT (k8.sqT g7)) (.cons (.str _) (.cons (.str _) .nil))) .nil))
 row_readAll go
 refine Zbx (fun h11b=>?_) (fun h11b=>?_)
 ·row_readAll go
  refine ZgU X2.d (by decide) (by decide) fun w H3 w0 w1 k3 D3=>?_
  have X3:=X2.keep k3 D3
  row_readAll go
  refine Zbx (fun h0=>?_) (fun h0=>?_)
  ·row_readAll go
   refine ZV (by row_readAll ln) fun p7 H7 f7 k7 g7=>?_
   row_readAll go
   refine ZV (by row_readAll ln) fun p8 H8 f8 k8 g8=>?_
   refine leaf p8 (.call (.nm z)) H8 ((k3.step0 k7).step0 k8) ((X3.k0 k7).k0 k8) ?_ (by simp only[Stm.wf]; exact oz) (by simp only[Stm.over]; exact mz) rfl rfl
   simp only[Stm.d,Ex.d]
   exact .tup g8 (.cons (.str _) (.cons (.tup (k8.sqT g7) (.cons (.str _) (.cons (.str _) .nil))) .nil))
  ·row_readAll go
   refine Zoz X3.d X3.n (by decide) (by decide) fun v5 e5 H5 i5 w5 o5 k5 D5 N5=>?_
   refine ZV (by row_readAll ln) fun p8 H8 f8 k8 g8=>?_
   refine leaf p8 (.call e5) H8 ((k3.trans k5).step0 k8) ((X3.keep k5 D5).k0 k8) ?_ (by simp only[Stm.wf]; exact w5.mono (by decide)) (by simp only[Stm.over]; exact o5) rfl rfl
   simp only[Stm.d]
   exact .tup g8 (.cons (.str _) (.cons (i5.mono k8) .nil))
 row_readAll go
 refine Zbx (fun h12b=>?_) (fun h12b=>?_)
 ·row_readAll go
  refine ZgU X2.d (by decide) (by decide) fun w H3 w0 w1 k3 D3=>?_
  have X3:=X2.keep k3 D3
  row_readAll go
  refine Zbx (fun h0=>?_) (fun h0=>?_)
  ·row_readAll go
   refine ZV (by row_readAll ln) fun p8 H8 f8 k8 g8=>?_
   refine leaf p8 .raise H8 (k3.step0 k8) (X3.k0 k8) ?_ (by simp only[Stm.wf]) (by simp only[Stm.over]) rfl rfl
   simp only[Stm.d]
   exact .tup g8 (.cons (.str _) .nil)
  ·row_readAll go
   refine Zr2 X3.d fun i H5 oi k5 D5=>?_
   refine ZV (by row_readAll ln) fun p8 H8 f8 k8 g8=>?_
   refine leaf p8 (.shw (.int i)) H8 ((k3.trans k5).step0 k8) ((X3.keep k5 D5).k0 k8) ?_ (by simp only[Stm.wf]; exact oi) (by simp only[Stm.over,Ex.over]) rfl rfl
   simp only[Stm.d,Ex.d]
   exact .tup g8 (.cons (.str _) (.cons (.int _) .nil))
 have d1:d ≤ 1:=by omega
 row_readAll go
 refine Zj4 (d:=d + 1) (most:=2 - d) X2 (by omega) (by omega) (by omega) (by omega) (by omega) fun v6 b6 H6 i6 r6 l6 k6 X6=>?_
 row_readAll go
 refine Zj4 (d:=d + 1) (most:=2 - d) X6 (by omega) (by omega) (by omega) (by omega) (by omega) fun v7 b7 H7 i7 r7 l7 k7 X7=>?_
 row_readAll go
 have k17:KC [h,c] H H7:=⟨(k12.k.trans k6).trans k7⟩
 have i67:=i6.mono k7
 obtain⟨w6,ov6,dp6,ct6⟩:=ZgD r6
 obtain⟨w7,ov7,dp7,ct7⟩:=ZgD r7
 have cc:cntL b6 + cntL b7 + 1 ≤ stN d∧cntL b6 + 1 ≤ stN d:=by
  have:d=0∨d=1:=by omega
  rcases this with rfl | rfl
  ·have e1:stN (0 + 1)=3:=rfl
   have e2:stN 0=13:=rfl
   rw[e1]at ct6 ct7
   rw[e2]
   omega
  ·have e1:stN (1 + 1)=1:=rfl
   have e2:stN 1=3:=rfl
   rw[e1]at ct6 ct7
   rw[e2]
   omega
 refine Zbx (fun h13=>?_) (fun h13=>?_)
 ·row_readAll go
  refine ZV (by row_readAll ln) fun p9 H9 f9 k9 g9=>?_
  refine q (.ref p9) (.fn z b6) H9 ?_ ⟨by simp only[Stm.wf]; exact⟨oz,w6⟩,by simp only[Stm.over]; exact⟨mz,ov6⟩,by simp only[Stm.dep]; omega,by simp only[Stm.cnt]; omega,by exact⟨by omega,Zfk r6⟩⟩ (k17.k.step0 k9) (X7.k0 k9)
  simp only[Stm.d]
  exact .tup g9 (.cons (.str _) (.cons (.str _) (.cons (i67.mono k9) .nil)))
 row_readAll go
 refine Zbx (fun h14=>?_) (fun h14=>?_)
 ·row_readAll go
  refine Zoz X7.d X7.n (by decide) (by decide) fun ve e Hb ib wb ob kb Db Nb=>?_
  refine ZV (by row_readAll ln) fun p9 H9 f9 k9 g9=>?_
  refine q (.ref p9) (.ite e b6 b7) H9 ?_ ⟨by simp only[Stm.wf]; exact⟨wb.mono (by decide),w6,w7⟩,by simp only[Stm.over]; exact⟨ob,ov6,ov7⟩,by simp only[Stm.dep]; omega,by simp only[Stm.cnt]; omega,by exact⟨by omega,by omega,Zfk r6,Zfk r7⟩⟩ ((k17.k.trans kb).step0 k9) ((X7.keep kb Db).k0 k9)
  simp only[Stm.d]
  exact .tup g9 (.cons (.str _) (.cons (ib.mono k9) (.cons ((i67.mono kb).mono k9) (.cons ((i7.mono kb).mono k9) .nil))))
 row_readAll go
 refine Zbg (by row_readAll ln) fun p9 H9 f9 k9 g9=>?_
 have np:=X7.d.ne1 f9
 row_readAll go
 refine ZgU (X7.d.k0 k9) (by decide) (by decide) fun w Ha w0 w1 ka Da=>?_
 have ga:=ka.obj _ _ (by simp[np.1,np.2]) g9
 obtain⟨y2,hy,ha⟩:=Ziz (xs:=ZiH.map V.str) w0 (by show w < 8; exact w1)
 rw[Ym]at hy
 cases hz:ZiH[w.toNat]? with
 | none=>rw[hz]at hy; cases hy
 | some kd =>
 rw[hz]at hy
 cases hy
 refine ZaA (xs:=ZiH.map V.str) (SqL.of ga) ha ?_
 refine ZV (by row_readAll ln) fun pc Hc fc kc gc=>?_
 refine q (.ref pc) (.tri kd b6 b7) Hc ?_ ⟨by simp only[Stm.wf]; exact⟨Zlw _ (Yj hz),w6,w7⟩,by simp only[Stm.over]; exact⟨ov6,ov7⟩,by simp only[Stm.dep]; omega,by simp only[Stm.cnt]; omega,by exact⟨by omega,by omega,Zfk r6,Zfk r7⟩⟩ (((k17.k.step0 k9).trans ka).step0 kc) (((X7.k0 k9).keep ka Da).k0 kc)
 simp only[Stm.d]
 exact .tup gc (.cons (.str _) (.cons (.str _) (.cons (((i67.mono k9).mono ka).mono kc) (.cons (((i7.mono k9).mono ka).mono kc) .nil))))
theorem ZhY{K:YA}{n:Nat}(vs:List V)(H:Hp)(Q:VK)(E:XK)(h:Z1 K n vs H Q E):Zd8 K (Z0 K n) { nx:=fun _ H'=>Q .non H',rt:=Q } (start ZkD vs) H:=by
 obtain⟨h,c,ml,nl,ms,ns,d,most,rfl,X,d2,dn,hm,q⟩:=h
 show Zd8 K _ _ [some (.ref h),some (.ref ml),some (.ref nl),some (.int d),some (.int most),none] H
 unfold Zd8
 have sl:=ZaF
 row_readAll go
 refine ZgU X.d (by omega) (by omega) fun u H2 u0 u1 k2 D2=>?_
 have X2:=X.keep k2 D2
 row_readAll go
 refine⟨by omega,by omega,?_⟩
 refine Zgd u.toNat (fun Dd i H'=>∃ (vs:List V) (b:List Stm),H' Dd=some (.lst vs)∧ImAll K H' vs (blkD b)∧b.length=i∧(∀ s∈b,DSt ms ns d s)∧Za [h,c] H2 H'∧MN H' h c ml nl ms ns) ?_ ?_ ?_ ?_ ?_
 ·exact fun Dd H6 _ k6 g6=>⟨[],[],g6,by simp[blkD]; exact .nil,rfl,by simp,k6.nil,X2.k0 k6⟩
 ·exact fun Dd H6 _=>YO _
 ·exact fun Dd i H6 hi _=>hi
 ·rintro Dd i H6 x H7 fD hi ⟨vs,b,gv,iv,lb,ok,k6,X6⟩ ⟨rfl,rfl⟩
  row_readAll go
  refine⟨h,c,ml,nl,ms,ns,d,rfl,X6,d2,dn,fun v s H8 i8 r8 k8 X8=>?_⟩
  have npD:=X2.d.ne1 fD
  have gl8:=k8.obj _ _ (by simp[npD.1,npD.2]) gv
  have kp:Za [Dd] H8 (upd H8 Dd (.lst (vs++[v]))):=Za.put gl8 True.intro
  have nlD:nl≠Dd:=fun e=>by
   subst e
   have:=X2.n.at_
   rw[fD]at this; cases this
  have mlD:ml≠Dd:=fun e=>by
   subst e
   have:=X2.m.at_
   rw[fD]at this; cases this
  refine⟨vs,gl8,by have:=iv.length; rw[ZbI]at this; omega,vs++[v],b++[s],Y8,?_,by simp[lb],?_,(k6.trans k8).step1 kp fD,X8.d.keep kp (by simp[Ne.symm npD.1]) (by simp[Ne.symm npD.2]),⟨kp.obj _ _ (by simp[mlD]) X8.m.at_,X8.m.ne,X8.m.few,X8.m.ok,X8.m.n1,X8.m.n2⟩,⟨kp.obj _ _ (by simp[nlD]) X8.n.at_,X8.n.ne,X8.n.few,X8.n.ok,X8.n.n1,X8.n.n2⟩⟩
  ·have e:blkD (b++[s])=blkD b++[s.d]:=by simp[Zby]
   rw[e]
   exact((iv.mono k8).snoc i8).mono kp
  ·intro a m
   simp only[Yh,Ye]at m
   rcases m with m | rfl
   ·exact ok a m
   ·exact r8
 ·rintro Dd H6 fD ⟨vs,b,gv,iv,lb,ok,k6,X6⟩
  refine ZkT (SqL.of gv) fun l H7 fl k7 gl=>?_
  exact q (.ref l) b H7 (.tup gl (iv.mono k7)) ok (by omega) ((k2.trans k6).trans k7.nil) (X6.k0 k7)
theorem MN.put{H H':Hp}{h c ml nl p:YD}{ms ns:List Str}(x:MN H h c ml nl ms ns)(k:Za [p] H H')(n1:p≠h)(n2:p≠c)(n3:p≠ml)(n4:p≠nl):MN H' h c ml nl ms ns :=
 ⟨x.d.keep k (by simp[Ne.symm n1]) (by simp[Ne.symm n2]),⟨k.obj _ _ (by simp[Ne.symm n3]) x.m.at_,x.m.ne,x.m.few,x.m.ok,x.m.n1,x.m.n2⟩,⟨k.obj _ _ (by simp[Ne.symm n4]) x.n.at_,x.n.ne,x.n.few,x.n.ok,x.n.n1,x.n.n2⟩⟩
theorem MN.fresh{H:Hp}{h c ml nl p:YD}{ms ns:List Str}(x:MN H h c ml nl ms ns)(f:H p=none):p≠h∧p≠c∧p≠ml∧p≠nl:=by
 have h1:=x.d.ne1 f
 refine⟨h1.1,h1.2,fun e=>?_,fun e=>?_⟩
 ·subst e; have:=x.m.at_; rw[f]at this; cases this
 ·subst e; have:=x.n.at_; rw[f]at this; cases this
structure Zn1(ms ns:List Str)(b:List Stm):Prop where
 wf:wfL b
 over:overL (noMod :: ms) ns b
 dep:depL b ≤ 1
 cnt:cntL b ≤ 2 * b.length
 nar:narL b
theorem Zn1.snoc{ms ns:List Str}{b:List Stm}{s:Stm}(x:Zn1 ms ns b)(w:s.wf)(o:s.over (noMod :: ms) ns)(d:s.dep ≤ 1)(c:s.cnt ≤ 2):Zn1 ms ns (b++[s]):=by
 refine⟨(ZfC _).mpr ?_,(ZcV _ _ _).mpr ?_,?_,?_,(Zd5 _).mpr ?_⟩
 ·intro t m; simp only[Yh,Ye]at m
  rcases m with m | rfl
  ·exact(ZfC _).mp x.wf t m
  ·exact w
 ·intro t m; simp only[Yh,Ye]at m
  rcases m with m | rfl
  ·exact(ZcV _ _ _).mp x.over t m
  ·exact o
 ·rw[Zjb]; have:=x.dep; omega
 ·rw[ZeS]; have:=x.cnt; simp[cntL]; omega
 ·intro t m; simp only[Yh,Ye]at m
  rcases m with m | rfl
  ·exact(Zd5 _).mp x.nar t m
  ·exact Zn0 c
def Zan(K:YA):Sp:=fun vs H Q _=>∃ h c ml nl ms ns,vs=[.ref h,.ref ml,.ref nl]∧MN H h c ml nl ms ns ∧
 ∀ v b H',Im K H' v (.tuple (blkD b))→Zn1 ms ns b→b.length ≤ ns.length→Za [h,c] H H'→MN H' h c ml nl ms ns→Q v H'
def Zbl(K:YA)  : TS:=(Y9 (Xk (Zbo YZ) (Y4 3))
 (Y9 (tFor (ZjT K (YS 2)) (Y4 4) (Y9 (Xk (Xm (Zb K) [] E0 (YT (YS 0) (YT (tC (.int 4)) YZ))) (Y4 5))
 (Y9 (Xi (Xc (tOp (ZbH K) (YS 5) (tC (.int 1)))) (Xn (tBM K "list" rAppend (YS 3) (YT (Zs K (YT (tC (.str "set")) (YT (YS 4) (YT (Xm (ZL K) [] E0 (YT (YS 0) YZ)) YZ)))) YZ))) Xo)
 (Xi (Xc (tOp (ZbH K) (YS 5) (tC (.int 2)))) (Xn (tBM K "list" rAppend (YS 3) (YT (Zs K (YT (tC (.str "def")) (YT (YS 4) (YT (Xm (Z1 K 3) [] E0 (YT (YS 0) (YT (YS 1) (YT (YS 2) (YT (tC (.int 2)) (YT (tC (.int 1)) YZ)))))) YZ)))) YZ))) Xo))))
 (Xh (tThen (YS 3) (kTup K)))))
def Zf6:List Str:=["_law_h", "_law_modules", "_law_names_here", "_law_found", "_law_name_here", "_law_kind"]
theorem ZeT{K:YA}(vs:List V)(H:Hp)(Q:VK)(E:XK)(h:Zan K vs H Q E):Zbl K { nx:=fun _ H'=>Q .non H',rt:=Q } (start Zf6 vs) H:=by
 obtain⟨h,c,ml,nl,ms,ns,rfl,X,q⟩:=h
 show Zbl K _ [some (.ref h),some (.ref ml),some (.ref nl),none,none,none] H
 unfold Zbl
 have sl:=ZaF
 have few:=X.n.few
 row_readAll go
 refine Zbg (by row_readAll ln) fun l H1 f1 k1 g1=>?_
 have X1:=X.k0 k1
 have nf:=X.fresh f1
 row_readAll go
 refine .inl ⟨⟨_,SqL.of X1.n.at_⟩,?_⟩
 refine Zg6 (S:=[h,c,l]) (Wk.lst (SqL.of X1.n.at_) (by simp[X.n.n1,X.n.n2,Ne.symm nf.2.2.2])) (fun i σ' H'=>∃ o4 o5 vs b,σ'=[some (.ref h),some (.ref ml),some (.ref nl),some (.ref l),o4,o5]∧H' l=some (.lst vs)∧ImAll K H' vs (blkD b)∧Zn1 ms ns b∧b.length ≤ i∧Za [h,c,l] H1 H'∧Za [h,c] H H'∧MN H' h c ml nl ms ns)
  (fun i σ' H' p=>by obtain⟨_,_,_,_,_,_,_,_,_,k,_,_⟩:=p; exact k)
  ⟨none,none,[],[],rfl,g1,by simp[blkD]; exact .nil,⟨by simp[wfL],by simp[overL],by simp[depL],by simp[cntL],trivial⟩,by simp,Za.refl _ _,k1.nil,X1⟩ ?_ ?_
 ·rintro i x σ' H2 H3 hx ⟨o4,o5,vs,b,rfl,g2,iv,db,lb,kS,kH,X2⟩ k3
  rw[Ym,Option.map_eq_some_iff]at hx
  obtain⟨z,hz,rfl⟩:=hx
  have mz:=Yj hz
  have oz:=X.n.ok z mz
  have X3:=X2.k0 k3
  row_readAll go
  refine ZgU X3.d (by decide) (by decide) fun u H4 u0 u1 k4 D4=>?_
  have X4:=X3.keep k4 D4
  have g4:=k4.obj _ _ (by simp[nf.1,nf.2.1]) (k3.obj _ _ Ya g2)
  have kS4:Za [h,c,l] H1 H4:=kS.trans ((k3.nil.trans k4).mono (by intro a m; simp at m ⊢; rcases m with rfl | rfl <;> simp))
  have kH4:Za [h,c] H H4:=kH.trans (k3.nil.trans k4)
  have iv4:=(iv.mono k3).mono k4
  have lv:=iv.length
  rw[ZbI]at lv
  have hi:=ZeF hz
  have add:∀ (p:YD) (s:Stm) (H5:Hp) (R:Hp→Prop) (σ:L2.St),σ = [some (.ref h),some (.ref ml),some (.ref nl),some (.ref l),some (.str z),some (.int u)]→Za [h,c] H4 H5→MN H5 h c ml nl ms ns→Im K H5 (.ref p) s.d→s.wf→s.over (noMod :: ms) ns→s.dep ≤ 1→s.cnt ≤ 2 →
    (∀ H6,(∃ o4 o5 vs b,σ = [some (.ref h),some (.ref ml),some (.ref nl),some (.ref l),o4,o5]∧H6 l=some (.lst vs)∧ImAll K H6 vs (blkD b)∧Zn1 ms ns b∧b.length ≤ i + 1∧Za [h,c,l] H1 H6∧Za [h,c] H H6∧MN H6 h c ml nl ms ns)→R H6)→rAppend (.ref l) [.ref p] H5 (fun _ H6=>R H6):=by
   intro p s H5 R σ es k5 X5 i5 w o d c2 r
   have g5:=k5.obj _ _ (by simp[nf.1,nf.2.1]) g4
   refine Ze4 g5 (by omega) fun H6 k6 g6=>r H6 ⟨_,_,vs++[.ref p],b++[s],es,g6,?_,db.snoc w o d c2,by simp; omega,?_,?_,X5.put k6 nf.1 nf.2.1 nf.2.2.1 nf.2.2.2⟩
   ·have e:blkD (b++[s])=blkD b++[s.d]:=by simp[Zby]
    rw[e]
    exact((iv4.mono k5).snoc i5).mono k6
   ·exact(kS4.trans (k5.mono (by intro a m; simp at m ⊢; rcases m with rfl | rfl <;> simp))).trans (k6.mono (by intro a m; simp at m ⊢; simp[m]))
   ·exact(kH4.trans k5).step1 k6 f1
  row_readAll go
  refine Zbx (fun h1=>?_) (fun h1=>?_)
  ·row_readAll go
   refine⟨.inl ⟨rfl,_,SqL.of g4⟩,?_⟩
   refine Zr2 X4.d fun j H5 oj k5 D5=>?_
   row_readAll go
   refine ZV (by row_readAll ln) fun p H6 f6 k6 g6=>?_
   refine add p (.set z (.int j)) H6 (fun H6=>Nx _ _ _ H6) _ rfl (k5.step0 k6) ((X4.keep k5 D5).k0 k6) ?_ (by simp only[Stm.wf]; exact⟨oz,oj⟩) (by simp only[Stm.over,Ex.over]; exact⟨mz,trivial⟩) (by simp[Stm.dep]) (by simp[Stm.cnt]) ?_
   ·simp only[Stm.d,Ex.d]
    exact .tup g6 (.cons (.str _) (.cons (.str _) (.cons (.int _) .nil)))
   intro H7 hh
   row_readAll go
   refine ZkQ (by omega) ?_
   row_readAll go
   exact hh
  row_readAll go
  refine Zbx (fun h2=>?_) (fun h2=>?_)
  ·row_readAll go
   refine⟨.inl ⟨rfl,_,SqL.of g4⟩,?_⟩
   refine Zj4 (d:=2) (most:=1) X4 rfl rfl (by decide) (by decide) (by decide) fun v5 b5 H5 i5 r5 l5 k5 X5=>?_
   row_readAll go
   refine ZV (by row_readAll ln) fun p H6 f6 k6 g6=>?_
   obtain⟨w5,ov5,dp5,ct5⟩:=ZgD r5
   have e1:stN 2=1:=rfl
   rw[e1]at ct5
   refine add p (.fn z b5) H6 _ _ rfl (k5.step0 k6) (X5.k0 k6) ?_ (by simp only[Stm.wf]; exact⟨oz,w5⟩) (by simp only[Stm.over]; exact⟨mz,ov5⟩) (by simp only[Stm.dep]; omega) (by simp only[Stm.cnt]; omega) ?_
   ·simp only[Stm.d]
    exact .tup g6 (.cons (.str _) (.cons (.str _) (.cons (i5.mono k6) .nil)))
   exact fun H7 hh=>hh
  ·row_readAll go
   exact⟨_,_,vs,b,rfl,g4,iv4,db,by omega,kS4,kH4,X4⟩
 ·rintro σ' H2 ⟨o4,o5,vs,b,rfl,g2,iv,db,lb,kS,kH,X2⟩
  row_readAll go
  refine ZkT (SqL.of g2) fun p H7 fl k7 gl=>?_
  exact q (.ref p) b H7 (.tup gl (iv.mono k7)) db (by simpa using lb) (kH.step0 k7) (X2.k0 k7)
structure ZoA(ms ns:List Str)(b:List Stm):Prop where
 wf:wfL b
 over:overL (noMod :: ms) ns b
 dep:depL b ≤ 2
 cnt:cntL b ≤ 58
 nar:narL b
 len:b.length ≤ 9
abbrev Prg:=List (Str×List Stm)
abbrev ZkE(K:YA)(H:Hp)(v:V)(b:List Stm):Prop:=Im K H v (.tuple (blkD b))
def ZK(K:YA)(H:Hp)(d:YD)(P:Prg):Prop:=∃ m,H d=some (.dK m)∧ZbF kS (ZkE K H) m P
theorem ZK.keep{K:YA}{H H':Hp}{d:YD}{P:Prg}{S:List YD}(x:ZK K H d P)(k:Za S H H')(n:d∉S):ZK K H' d P:=by
 obtain⟨m,h1,h2⟩:=x
 exact⟨m,k.obj _ _ n h1,h2.mono fun v b i=>i.mono k⟩
theorem ZK.k0{K:YA}{H H':Hp}{d:YD}{P:Prg}(x:ZK K H d P)(k:Za [] H H'):ZK K H' d P:=x.keep k Ya
structure ZgE(ms ns:List Str)(P:Prg):Prop where
 ndm:ms.Nodup
 ndn:ns.Nodup
 lm:ms.length ≤ 4
 ln:ns.length ≤ 3
 nm:ms≠[]
 nn:ns≠[]
 okm:∀ x∈ms,okN x
 okn:∀ x∈ns,okN x
 keys:P.map (·.1)=ms
 blk:∀ x∈P,ZoA ms ns x.2
def Zck(K:YA)  : TS:=(Y9 (tPar 4 5 (YT (Xm (Zbu K) [] E0 (YT (YS 0) (YT (tC (.int 4)) YZ))) (YT (Xm (Zbu K) [] E0 (YT (YS 0) (YT (tC (.int 3)) YZ))) YZ)))
 (Y9 (Xk Zio (Y4 2))
 (Y9 (tFor (ZjT K (YS 4)) (Y4 3) (Xk (tOp (rAdd K) (Xm (Zan K) [] E0 (YT (YS 0) (YT (YS 4) (YT (YS 5) YZ)))) (Xm (Z1 K 3) [] E0 (YT (YS 0) (YT (YS 4) (YT (YS 5) (YT (tC (.int 0)) (YT (YS 1) YZ))))))) (gSub (YS 2) (YS 3) rSetD)))
 (Xh (Zs K (YT (YS 4) (YT (YS 5) (YT (YS 2) YZ))))))))
def ZhZ:List Str:=["_law_h", "_law_most", "_law_found", "_law_module", "_law_modules", "_law_names_here"]
theorem Zjg(a b:List Stm):blkD (a++b)=blkD a++blkD b:=by simp[Zby]
theorem ZoA.of{ms ns:List Str}{a b:List Stm}{most:Nat}(x:Zn1 ms ns a)(la:a.length ≤ 3)(y:∀ s∈b,DSt ms ns 0 s)(lb:b.length ≤ most)(hm:most ≤ 4):ZoA ms ns (a++b):=by
 obtain⟨w,o,d,c⟩:=ZgD y
 refine⟨(ZfC _).mpr fun s m=>?_,(ZcV _ _ _).mpr fun s m=>?_,?_,?_,(Zd5 _).mpr fun s m=>?_,by rw[Yc]; omega⟩
 ·rcases Yh.mp m with m | m
  ·exact(ZfC _).mp x.wf s m
  ·exact(ZfC _).mp w s m
 ·rcases Yh.mp m with m | m
  ·exact(ZcV _ _ _).mp x.over s m
  ·exact(ZcV _ _ _).mp o s m
 ·have:∀ l:List Stm,depL (l++b)=max (depL l) (depL b):=by
   intro l
   induction l with
   | nil=>simp[depL]
   | cons z r ih=>simp only[Yz,depL,ih]; omega
  rw[this]
  have:=x.dep
  omega
 ·rw[ZeS]
  have:=x.cnt
  have e:stN 0=13:=rfl
  rw[e]at c
  omega
 ·rcases Yh.mp m with m | m
  ·exact(Zd5 _).mp x.nar s m
  ·exact(y s m).nar
theorem ZgF{x:Str}(h:okN x):Zgg x=true:=by
 unfold Zgg
 simp only[Bool.and_eq_true,decide_eq_true_eq,List.all_eq_true]
 exact⟨⟨h.1,h.2.1⟩,h.2.2⟩
theorem Ex.wf.ok:∀ {e:Ex} {d:Nat},e.wf d→d ≤ 3→e.ok (3 - d)=true
 | .int i,d,h,_=>by
   have h2:okI i:=by cases d <;> exact h
   simp only[Ex.ok]; exact decide_eq_true h2
 | .nm n,d,h,_=>by
   have h2:okN n:=by cases d <;> exact h
   simp only[Ex.ok]; exact ZgF h2
 | .of n a,d,h,_=>by
   have h2:okN n∧okN a:=by cases d <;> exact h
   simp only[Ex.ok,ZgF h2.1,ZgF h2.2]; rfl
 | .bin s l r,0,h,_=>by exact h.elim
 | .bin s l r,d + 1,h,hd=>by
   simp only[Ex.wf]at h
   have h1:=h.1.ok (by omega)
   have h2:=h.2.ok (by omega)
   have e : 3 - d=3 - (d + 1) + 1:=by omega
   rw[e]at h1 h2
   simp only[Ex.ok,h1,h2]
   rw[if_neg (by omega)]; rfl
theorem Ex.wf.strs:∀ {e:Ex} {d:Nat},e.wf d→∀ x∈e.strs,okN x
 | .int i,d,h,x,m=>by simp[Ex.strs]at m
 | .nm n,d,h,x,m=>by
   have h2:okN n:=by cases d <;> exact h
   simp[Ex.strs]at m; subst m; exact h2
 | .of n a,d,h,x,m=>by
   have h2:okN n∧okN a:=by cases d <;> exact h
   simp[Ex.strs]at m; rcases m with rfl | rfl
   ·exact h2.1
   ·exact h2.2
 | .bin s l r,0,h,_,_=>by exact h.elim
 | .bin s l r,d + 1,h,x,m=>by
   simp only[Ex.wf]at h
   simp only[Ex.strs,Yh]at m
   rcases m with m | m
   ·exact h.1.strs x m
   ·exact h.2.strs x m
theorem okN.tx{x:Str}(h:okN x):x.length ≤ 4000∧PyData.strOk x=true:=⟨by have:=h.2.1; omega,h.ok⟩
theorem Stm.wf.okNames{s:Stm}(h:s.wf):∀ x∈s.names,okN x:=by
 intro x m
 cases s <;> simp only[Stm.wf]at h <;> simp only[Stm.names,Yn,Ya,or_false]at m
 ·subst m; exact h.1
 ·subst m; exact h
 ·rcases m with rfl | rfl; exact h.1; exact h.2
 ·rcases m with rfl | rfl | rfl; exact h.1; exact h.2.1; exact h.2.2
 ·subst m; exact h
 ·subst m; exact h.1
theorem Stm.wf.okExprs{s:Stm}(h:s.wf):∀ e∈s.exprs,e.wf 3:=by
 intro x m
 cases s <;> simp only[Stm.wf]at h <;> simp only[Stm.exprs,Yn,Ya,or_false]at m
 ·subst m; exact h.2
 ·subst m; exact h
 ·subst m; exact h
 ·subst m; exact h.1
theorem Stm.wf.okAt{s:Stm}(h:s.wf){p:Pth}(hp:p.length / 2 ≤ 3):s.okAt p=true:=by
 unfold Stm.okAt
 rw[decide_eq_true hp]
 simp only[Bool.true_and,Bool.and_eq_true,List.all_eq_true]
 exact⟨fun x m=>ZgF (h.okNames x m),fun e m=>(h.okExprs e m).ok (YO _)⟩
theorem Stm.wf.tx{s:Stm}(h:s.wf):s.tx:=⟨fun x m=>(h.okNames x m).tx,fun e m=>⟨fun x mx=>((h.okExprs e m).strs x mx).tx,(h.okExprs e m).lay.1,by have:=(h.okExprs e m).lay.2; omega⟩⟩
mutual
theorem Zn2(Q:Pth→Stm→Prop)(hq:∀ p s,s.wf→p.length / 2 ≤ 3→Q p s):∀ (s:Stm) (p:Pth) (k:Nat),s.wf→p.length=2 * k + 1→k + s.dep ≤ 3→∀ r∈s.sub p,Q r.1 r.2
 | .fn _ b,p,k,h,hp,hd,r,m=>by
   simp only[Stm.wf]at h; simp only[Stm.dep]at hd; simp only[Stm.sub]at m
   exact walk_all Q hq b (p++[0]) 0 (k + 1) h.2 (by simp; omega) (by omega) r m
 | .ite _ b o,p,k,h,hp,hd,r,m=>by
   simp only[Stm.wf]at h; simp only[Stm.dep]at hd; simp only[Stm.sub,Yh]at m
   rcases m with m | m
   ·exact walk_all Q hq b (p++[0]) 0 (k + 1) h.2.1 (by simp; omega) (by omega) r m
   ·exact walk_all Q hq o (p++[1]) 0 (k + 1) h.2.2 (by simp; omega) (by omega) r m
 | .tri _ b o,p,k,h,hp,hd,r,m=>by
   simp only[Stm.wf]at h; simp only[Stm.dep]at hd; simp only[Stm.sub,Yh]at m
   rcases m with m | m
   ·exact walk_all Q hq b (p++[0]) 0 (k + 1) h.2.1 (by simp; omega) (by omega) r m
   ·exact walk_all Q hq o (p++[1]) 0 (k + 1) h.2.2 (by simp; omega) (by omega) r m
 | .set ..,_,_,_,_,_,r,m=>by simp[Stm.sub]at m
 | .del ..,_,_,_,_,_,r,m=>by simp[Stm.sub]at m
 | .shw ..,_,_,_,_,_,r,m=>by simp[Stm.sub]at m
 | .call ..,_,_,_,_,_,r,m=>by simp[Stm.sub]at m
 | .raise,_,_,_,_,_,r,m=>by simp[Stm.sub]at m
 | .imp ..,_,_,_,_,_,r,m=>by simp[Stm.sub]at m
 | .frm ..,_,_,_,_,_,r,m=>by simp[Stm.sub]at m
 | .star ..,_,_,_,_,_,r,m=>by simp[Stm.sub]at m
theorem walk_all(Q:Pth→Stm→Prop)(hq:∀ p s,s.wf→p.length / 2 ≤ 3→Q p s):∀ (b:List Stm) (p:Pth) (i k:Nat),wfL b→p.length=2 * k→k + depL b ≤ 3→∀ r∈walkL p i b,Q r.1 r.2
 | [],_,_,_,_,_,_,r,m=>by simp[walkL]at m
 | s :: b,p,i,k,h,hp,hd,r,m=>by
   simp only[wfL]at h; simp only[depL]at hd; simp only[walkL,Yn,Yh]at m
   rcases m with rfl | m | m
   ·exact hq _ _ h.1 (by simp; omega)
   ·exact Zn2 Q hq s (p++[i]) k h.1 (by simp; omega) (by omega) r m
   ·exact walk_all Q hq b p (i + 1) k h.2 hp (by omega) r m
end
mutual
theorem sub_len:∀ (s:Stm) (p:Pth),(s.sub p).length + 1=s.cnt
 | .fn _ b,p=>by simp only[Stm.sub,Stm.cnt,walk_len]
 | .ite _ b o,p=>by simp only[Stm.sub,Stm.cnt,Yc,walk_len]
 | .tri _ b o,p=>by simp only[Stm.sub,Stm.cnt,Yc,walk_len]
 | .set ..,_=>by simp[Stm.sub,Stm.cnt]
 | .del ..,_=>by simp[Stm.sub,Stm.cnt]
 | .shw ..,_=>by simp[Stm.sub,Stm.cnt]
 | .call ..,_=>by simp[Stm.sub,Stm.cnt]
 | .raise,_=>by simp[Stm.sub,Stm.cnt]
 | .imp ..,_=>by simp[Stm.sub,Stm.cnt]
 | .frm ..,_=>by simp[Stm.sub,Stm.cnt]
 | .star ..,_=>by simp[Stm.sub,Stm.cnt]
theorem walk_len:∀ (b:List Stm) (p:Pth) (i:Nat),(walkL p i b).length=cntL b
 | [],_,_=>by simp[walkL,cntL]
 | s :: b,p,i=>by
   have h1:=sub_len s (p++[i])
   have h2:=walk_len b p (i + 1)
   simp only[walkL,cntL,Yd,Yc,h2]; omega
end
mutual
theorem Zp8:∀ (s:Stm) (p:Pth),s.wf→∀ r∈s.sub p,r.2.wf
 | .fn _ b,p,h,r,m=>by
   simp only[Stm.wf]at h; simp only[Stm.sub]at m
   exact walk_wf b (p++[0]) 0 h.2 r m
 | .ite _ b o,p,h,r,m=>by
   simp only[Stm.wf]at h; simp only[Stm.sub,Yh]at m
   rcases m with m | m
   ·exact walk_wf b (p++[0]) 0 h.2.1 r m
   ·exact walk_wf o (p++[1]) 0 h.2.2 r m
 | .tri _ b o,p,h,r,m=>by
   simp only[Stm.wf]at h; simp only[Stm.sub,Yh]at m
   rcases m with m | m
   ·exact walk_wf b (p++[0]) 0 h.2.1 r m
   ·exact walk_wf o (p++[1]) 0 h.2.2 r m
 | .set ..,_,_,r,m=>by simp[Stm.sub]at m
 | .del ..,_,_,r,m=>by simp[Stm.sub]at m
 | .shw ..,_,_,r,m=>by simp[Stm.sub]at m
 | .call ..,_,_,r,m=>by simp[Stm.sub]at m
 | .raise,_,_,r,m=>by simp[Stm.sub]at m
 | .imp ..,_,_,r,m=>by simp[Stm.sub]at m
 | .frm ..,_,_,r,m=>by simp[Stm.sub]at m
 | .star ..,_,_,r,m=>by simp[Stm.sub]at m
theorem walk_wf:∀ (b:List Stm) (p:Pth) (i:Nat),wfL b→∀ r∈walkL p i b,r.2.wf
 | [],_,_,_,r,m=>by simp[walkL]at m
 | s :: b,p,i,h,r,m=>by
   simp only[wfL]at h; simp only[walkL,Yn,Yh]at m
   rcases m with rfl | m | m
   ·exact h.1
   ·exact Zp8 s (p++[i]) h.1 r m
   ·exact walk_wf b p (i + 1) h.2 r m
end
structure ZdB(b:List Stm):Prop where
 wf:wfL b
 dep:depL b ≤ 4
 cnt:cntL b ≤ 60
 pth:∀ r∈walkL [] 0 b,r.1.length / 2 ≤ 3
theorem Zn3{b:List Stm}(hw:wfL b)(h:depL b ≤ 3):∀ r∈walkL [] 0 b,r.1.length / 2 ≤ 3:=walk_all (fun p _=>p.length / 2 ≤ 3) (fun p s _ hp=>hp) b [] 0 0 hw rfl (by omega)
theorem ZoA.ok{ms ns:List Str}{b:List Stm}(h:ZoA ms ns b):ZdB b:=⟨h.wf,by have:=h.dep; omega,by have:=h.cnt; omega,Zn3 h.wf (by have:=h.dep; omega)⟩
theorem ZdB.fault{b:List Stm}(h:ZdB b){i:Nat}{n:Str}(hi:i < 8)(hn:okN n):ZaT i n b=none:=by
 unfold ZaT
 rw[if_neg]
 ·unfold ZeR
  rw[List.find?_eq_none.mpr]
  ·rfl
  ·intro r m
   have:=(walk_wf b [] 0 h.wf r m).okAt (h.pth r m)
   simp[this]
 ·rintro(z | z | z)
  ·omega
  ·rw[ZgF hn]at z; cases z
  ·rw[walk_len]at z; have:=h.cnt; omega
theorem ZdB.tx{b:List Stm}(h:ZdB b):Zp7 b:=fun r m=>(walk_wf b [] 0 h.wf r m).tx
theorem ZdB.few{b:List Stm}(h:ZdB b):(walkL [] 0 b).length ≤ 100000:=by rw[walk_len]; have:=h.cnt; omega
structure Zbw(P:Prg):Prop where
 nd:(P.map (·.1)).Nodup
 few:P.length ≤ 8
 nm:∀ x∈P,okN x.1
 blk:∀ x∈P,ZdB x.2
theorem ZgE.ok{ms ns:List Str}{P:Prg}(h:ZgE ms ns P):Zbw P:=by
 have e:=congrArg List.length h.keys
 rw[Yb]at e
 have:=h.lm
 exact⟨by rw[h.keys]; exact h.ndm,by omega,fun x m=>h.okm _ (by rw[← h.keys]; exact Yv (f:=(·.1)) m),fun x m=>(h.blk x m).ok⟩
end M
local macro_rules | `(tactic| row_readAll n2) => `(tactic| simp only [ZrX, ZpW, ZpX, ZpY, ZpZ, Zp0, Zp1, Ztc, ZrY, ZrZ, Zp2, Zm7, List.append_nil])
local macro_rules | `(tactic| row_readAll s) => `(tactic| first | row_readAll n | row_readAll n2 | row_readAll s2 | row_readAll br | row_readAll nx)
local macro_rules | `(tactic| row_readAll s8) => `(tactic| first | row_readAll n | row_readAll n2 | row_readAll s2 | row_readAll br | row_readAll nx)
local macro_rules | `(tactic| row_readAll go) => `(tactic| repeat row_readAll s8)
local macro_rules | `(tactic| row_readAll s38) => `(tactic| first
 | row_readAll s8
 | ((with_reducible show _ ≤ YK∧_); refine⟨by row_readAll sz,?_⟩)
 | ((with_reducible show mkT _ _ _ _); refine ZV (by row_readAll ln) fun _ _ _ _ _=>?_)
 | ((with_reducible show Zl5 _ (V.str _) (V.ref _) _ _); first | refine Zi7 (by row_readAll sq) ?_ | refine Znp (by row_readAll sq) ?_)
 | (simp only[Bool.or_false,Bool.or_true,Bool.true_or,Bool.false_or,Bool.and_true,Bool.true_and,Bool.false_and,Bool.and_false]))
local macro_rules | `(tactic| row_readAll ga) => `(tactic| repeat row_readAll s38)
namespace M
open PySem L2 SlX
def Zt(P:Prg):Prg:=(Zdg (P.map (·.1))).map fun n=>(n,(valA P n).getD [])
theorem ZbR(P:Prg):(Zt P).map (·.1)=Zdg (P.map (·.1)):=by
 unfold Zt
 rw[Yx]
 exact(List.map_congr_left fun _ _=>rfl).trans (List.map_id _)
structure Zd9(K:YA)(C p1 p2:YD):Prop where
 c:SCls K C
 s1:Slot1 K C "own_names" p1 1
 s2:Slot1 K C "own_blocks" p2 0
structure ZH(K:YA)(H:Hp)(C a:YD)(P:Prg)(fp:List YD):Prop where
 ex:∃ dx nl d,fp=[a,dx,nl,d]∧Slt H a C dx [some (.ref d),some (.ref nl)]∧H dx=some (.xd [])∧H nl=some (.lst ((P.map (·.1)).map V.str))∧ZK K H d P
theorem ZH.keep{K:YA}{H H':Hp}{C a:YD}{P:Prg}{fp S:List YD}(x:ZH K H C a P fp)(k:Za S H H')(n:∀ b∈fp,b∉S):ZH K H' C a P fp:=by
 obtain⟨dx,nl,d,rfl,h1,h2,h3,h4⟩:=x.ex
 refine⟨dx,nl,d,rfl,Slt.keep (b:=.own 0) h1 k (n _ (by simp)) (n _ (by simp)),k.obj _ _ (n _ (by simp)) h2,k.obj _ _ (n _ (by simp)) h3,h4.keep k (n _ (by simp))⟩
theorem ZH.k0{K:YA}{H H':Hp}{C a:YD}{P:Prg}{fp:List YD}(x:ZH K H C a P fp)(k:Za [] H H'):ZH K H' C a P fp:=x.keep k fun _ _=>Ya
def Zf(K:YA)(C:YD):Sp:=fun vs H Q _=>∃ a dx d P,vs=[.ref a,.ref d]∧H a=some (.ins C dx [])∧H dx=some (.own a)∧dx≠a∧ZK K H d P∧Zbw P ∧
 ∀ nl e H',ZH K H' C a (Zt P) [a,dx,nl,e]→H nl=none→H e=none→Za [a,dx] H H'→Q .non H'
def ZaE(K:YA)  : TS:=(Y9 (tFor (Zii K (YT (tCB Zhj (YT (YS 1) YZ)) YZ)) (gTup K 2 (gCons (Y4 2) (gCons (Y4 3) gNil))) (Y9 (Xk (Xm (Zbh K) [] E0 (YT (YS 2) (YT (YS 3) (YT (tOp rIxD (YS 1) (YS 3)) YZ)))) (Y4 4))
 (Xi (Xc (tOp rNotN (YS 4) (tC .non))) tNever Xo)))
 (Y9 (SlX.sSl K (YS 0) (tCB Zhj (YT (YS 1) YZ)) "own_names")
 (SlX.sSl K (YS 0) (tDc (ZjT K (tCB Zhj (YT (YS 1) YZ))) (Y4 3) tYes (YS 3) (tOp rIxD (YS 1) (YS 3)) [3]) "own_blocks")))
def Zfm:List Str:=["self", "modules", "index", "name", "path"]
theorem ZK.val{K:YA}{H:Hp}{d:YD}{P:Prg}{n:Str}(x:ZK K H d P)(m:n∈P.map (·.1)):∃ v b,valA P n=some b∧Im K H v (.tuple (blkD b))∧∀ Q:VK,Q v H→rIxD (.ref d) (.str n) H Q:=by
 obtain⟨mm,h1,h2⟩:=x
 rcases h2.val Zak n with⟨_,z⟩ | ⟨v,b,e1,e2,i⟩
 ·exact absurd m (ZQ.mp z)
 ·exact⟨v,b,e2,i,fun Q q=>ZhD h1 e1 q⟩
theorem get_map{α β : Type}{f : α→β}{l:List α}{i:Nat}{y : β}(e:(l.map f)[i]? = some y):∃ x,l[i]? = some x∧y=f x:=by
 rw[Ym,Option.map_eq_some_iff]at e
 obtain⟨x,h1,h2⟩:=e
 exact⟨x,h1,h2.symm⟩
theorem ZdC{K:YA}{C p1 p2:YD}(T:Zd9 K C p1 p2)(vs:List V)(H:Hp)(Q:VK)(E:XK)(h:Zf K C vs H Q E):ZaE K { nx:=fun _ H'=>Q .non H',rt:=Q } (start Zfm vs) H:=by
 obtain⟨a,dx,d,P,rfl,ha,hdx,hne,dp,ok,q⟩:=h
 show ZaE K _ [some (.ref a),some (.ref d),none,none,none] H
 unfold ZaE
 have sl:=ZaF
 have few:=ok.few
 obtain⟨m,hm,rm⟩:=dp
 have lks:(Zdg (P.map (·.1))).length=P.length:=by rw[Zk8,Yb]
 row_readAll go
 refine ZhL hm rm (by omega) fun l1 H1 f1 k1 g1=>?_
 row_readAll go
 refine .inl ⟨⟨_,SqL.of g1⟩,?_⟩
 refine Znu (xs:=(Zdg (P.map (·.1))).map V.str) (fun i σ' H'=>∃ o2 o3 o4,σ'=[some (.ref a),some (.ref d),o2,o3,o4]∧Za [] H1 H') ⟨none,none,none,rfl,Za.refl _ _⟩ (fun i σ' H' _ p=>by obtain⟨_,_,_,_,k⟩:=p; exact SqL.of (k.obj _ _ Ya g1)) ?_ ?_
 ·rintro i x T2 σ' H2 H3 hx ⟨o2,o3,o4,rfl,k2⟩ k3 hT
  obtain⟨n,hn,rfl⟩:=get_map hx
  have mn:n∈P.map (·.1):=Zcp.mp (Yj hn)
  have hi:=ZeF hn
  have kk:Za [] H H3:=(k1.trans k2).trans k3
  refine ZiG hT ?_
  row_readAll go
  obtain⟨v,b,e1,i1,gv⟩:=ZK.val (K:=K) (H:=H3) ⟨m,kk.obj _ _ Ya hm,rm.mono fun v b i=>i.mono kk⟩ mn
  refine gv _ ?_
  have mb:=Zaw e1
  have ob:=ok.blk _ mb
  have on:=ok.nm _ mb
  refine⟨v,b,n,i,rfl,i1,Nat.lt_of_le_of_lt ob.dep (by decide),ob.few,ob.tx,on.tx.1,on.tx.2,fun r H4 k4 hr=>?_⟩
  rw[ob.fault (by omega) on]at hr
  cases hr
  row_readAll go
  exact⟨_,_,_,rfl,(k2.trans k3).trans k4⟩
 ·rintro σ' H2 ⟨o2,o3,o4,rfl,k2⟩
  have kk:Za [] H H2:=k1.trans k2
  row_readAll go
  refine ZhL (kk.obj _ _ Ya hm) rm (by omega) fun nl H3 f3 k3 g3=>?_
  have kk3:Za [] H H3:=kk.trans k3
  row_readAll go
  have ha3:=kk3.obj _ _ Ya ha
  have hdx3:=kk3.obj _ _ Ya hdx
  refine Zlm (y:=.ref nl) (.inl ⟨ha3,rfl⟩) (.inl hdx3) hne T.c T.s1 fun H4 k4 s4 x4=>?_
  have e4:putS 1 (.ref nl) []=[none,some (V.ref nl)]:=rfl
  rw[e4]at s4
  row_readAll go
  have dne:d≠a∧d≠dx:=by
   constructor
   ·rintro rfl; rw[hm]at ha; cases ha
   ·rintro rfl; rw[hm]at hdx; cases hdx
  have nne:nl≠a∧nl≠dx:=by
   have f3':=kk.free f3
   constructor
   ·rintro rfl; rw[f3']at ha; cases ha
   ·rintro rfl; rw[f3']at hdx; cases hdx
  have hm4:=k4.obj _ _ (by simp[dne.1,dne.2]) (kk3.obj _ _ Ya hm)
  refine ZhL hm4 rm (by omega) fun l5 H5 f5 k5 g5=>?_
  row_readAll go
  refine .inl ⟨⟨_,SqL.of g5⟩,?_⟩
  have rm5:ZbF kS (ZkE K H5) m P:=((rm.mono fun v b i=>i.mono kk3).mono fun v b i=>i.mono k4).mono fun v b i=>i.mono k5
  have hm5:=k5.obj _ _ Ya hm4
  refine Zll (S:=[]) (Wk.lst (SqL.of g5) Ya) (fun D i H6=>Za [] H5 H6∧ZK K H6 D ((Zt P).take i)) (fun D i H6 p=>p.1) (fun D H6 _ k6 g6=>⟨k6,[],g6,by simpa using .nil⟩) ?_ ?_
  ·rintro D i H6 x H7 fD hx ⟨k6,mD,gD,rD⟩ k7
   obtain⟨n,hn,rfl⟩:=get_map hx
   have mn:n∈P.map (·.1):=Zcp.mp (Yj hn)
   have hi:=ZeF hn
   row_readAll go
   have k67:Za [] H5 H7:=k6.trans k7
   obtain⟨v,b,e1,i1,gv⟩:=ZK.val (K:=K) (H:=H7) ⟨m,k67.obj _ _ Ya hm5,rm5.mono fun v b i=>i.mono k67⟩ mn
   refine gv _ ?_
   have lD:=rD.length
   rw[Yu]at lD
   refine ZsM (k7.obj _ _ Ya gD) (by omega) fun H8 k8 g8=>⟨k67.step1 k8 fD,_,g8,?_⟩
   have hp:(Zt P)[i]? = some (n,b):=by
    unfold Zt
    rw[Ym,hn,Option.map_some,e1]
    rfl
   rw[take_snoc hp]
   have nn:n∉((Zt P).take i).map (·.1):=by
    rw[List.map_take,ZbR]
    intro hmem
    obtain⟨j,hj⟩:=Yy hmem
    have hj2:=(Yk.mp hj).1
    rw[Yu]at hj2
    rw[List.getElem?_take_of_lt (by omega)]at hj
    have e2:(Zdg (P.map (·.1)))[j]'(by omega)=n:=(Yk.mp hj).2
    have e3:(Zdg (P.map (·.1)))[i]=n:=(Yk.mp hn).2
    have:=(List.getElem_inj (h₀:=by omega) (h₁:=hi) (ZeP ok.nd)).mp (e2.trans e3.symm)
    omega
   have eP:ZbE ((Zt P).take i) n b=(Zt P).take i++[(n,b)]:=by
    unfold ZbE
    rw[if_neg]
    intro hh
    rw[List.any_eq_true]at hh
    obtain⟨p,hp2,e⟩:=hh
    exact nn (by rw[← of_decide_eq_true e]; exact Yv (f:=(·.1)) hp2)
   rw[← eP]
   exact((rD.mono fun v b i=>i.mono k7).put Zak (k:=n) (v:=v) (x:=b) i1).mono fun v b i=>i.mono k8
  ·rintro D H6 fD ⟨k6,dD⟩
   row_readAll go
   have s6:=Slt.keep (b:=.own 0) s4 (k5.trans k6) Ya Ya
   have x6:=(k5.trans k6).obj _ _ Ya x4
   refine Zlm (y:=.ref D) s6 (.inr x6) hne T.c T.s2 fun H7 k7 s7 x7=>?_
   have e7:putS 0 (.ref D) [none,some (V.ref nl)]=[some (V.ref D),some (V.ref nl)]:=rfl
   rw[e7]at s7
   have fD4:H4 D=none:=k5.free fD
   have fDH3:H3 D=none:=k4.free fD4
   have Dne:D≠a∧D≠dx∧D≠nl:=by
    refine⟨?_,?_,?_⟩
    ·rintro rfl; rw[fDH3]at ha3; cases ha3
    ·rintro rfl; rw[fDH3]at hdx3; cases hdx3
    ·rintro rfl; rw[fDH3]at g3; cases g3
   refine q nl D H7 ⟨dx,nl,D,rfl,s7,x7,?_,?_⟩ (kk.free f3) (kk3.free fDH3) ?_
   ·rw[ZbR]
    exact k7.obj _ _ (by simp[nne.1,nne.2]) ((k5.trans k6).obj _ _ Ya (k4.obj _ _ (by simp[nne.1,nne.2]) g3))
   ·have hl:(Zt P).length=P.length:=by unfold Zt; rw[Yb,lks]
    rw[Yb,lks,← hl,Yt]at dD
    exact dD.keep k7 (by simp[Dne.1,Dne.2.1])
   ·exact((kk3.nil.trans k4).step0 (k5.trans k6)).trans k7
end M
namespace M
open PySem L2
inductive Vl where
 | int (i:Int) | md (m:Str) | fn (m:Str) (p:Pth)
 deriving DecidableEq
def Vl.d:Vl→PyData
 | .int i=>.int i
 | .md m=>.tuple [.str "module",.str m]
 | .fn m p=>.tuple [.str "function",.str m,ZcJ p]
abbrev Zlx:=Str×Str
abbrev Zj5:=List (Zlx×Vl)
abbrev Plc:=Str×Pth
structure Wd where
 left:Nat
 st:List (Str×Str)
 vs:Zj5
 shown:List Vl
 ev:List (Str×Str)
inductive Rs where
 | ok (w:Wd) | err (k:Str) (t:List Plc) (w:Wd) | stop (t:List Plc) (w:Wd)
def evl(vs:Zj5)(m:Str):Ex→Except Str Vl
 | .int i=>.ok (.int i)
 | .nm n=>match valA vs (m,n)with
   | some x=>.ok x
   | none=>.error "unbound"
 | .of n a=>match valA vs (m,n)with
   | none=>.error "unbound"
   | some (.md h)=>(match valA vs (h,a)with
     | some x=>.ok x
     | none=>.error "missing")
   | some _=>.error "kind"
 | .bin s l r=>match evl vs m l with
   | .error e=>.error e
   | .ok x=>match evl vs m r with
     | .error e=>.error e
     | .ok y=>match x,y with
       | .int a,.int b=>.ok (.int (if s=true then a + b else if a < b then 1 else 0))
       | _,_=>.error "kind"
def Zp9:List Stm→Pth→Option (List Stm)
 | _,[]=>none
 | b,[i]=>match b[i]? with
   | some (.fn _ body)=>some body
   | _=>none
 | b,i :: k :: p=>match b[i]? with
   | some s=>(match s.blocks[k]? with
     | some b'=>Zp9 b' p
     | none=>none)
   | none=>none
def Zmt(m t:Str):List Zlx→Zj5→Zj5
 | [],vs=>vs
 | k :: r,vs=>Zmt m t r (if k.1=t then(match valA vs k with
   | some x=>ZbE vs (m,k.2) x
   | none=>vs)else vs)
def Zp_(vs:Zj5)(m t:Str):Zj5:=Zmt m t (vs.map (·.1)) vs
abbrev Fb:=Str→Option (List Stm)
def told(w:Wd)(m:Str):Str:=(valA w.st m).getD "absent"
def Zr3(m:Str)(w:Wd):Wd:={ w with st:=ZbE w.st m "done",ev:=w.ev++[(("end" : Str),m)] }
def Zn4(m:Str)(w:Wd):Wd:={ w with st:=ZbE w.st m "absent",vs:=w.vs.filter (fun p=>decide (p.1.1≠m)),ev:=w.ev++[(("fail" : Str),m)] }
end M
namespace M
open PySem PySem.Spec PyProof.Rows L2 L2H
theorem Zn5{P:YD→Prop}:∀ x∈([]:List YD),P x:=fun _ h=>nomatch h
theorem Zmu{P:YD→Prop}{a:YD}{l:List YD}(h:P a)(t:∀ x∈l,P x):∀ x∈a :: l,P x:=fun x m=>by
 rcases Yn.mp m with rfl | m
 ·exact h
 ·exact t x m
theorem Za.stepB{S T:List YD}{H H1 H2:Hp}(b:Za T H1 H2)(h:∀ x∈T,x∈S∨H x=none)(a:Za S H H1):Za S H H2:=a.step b h
def mkN(xs:List V)(H:Hp)(Q:VK):Prop:=xs.length ≤ YK∧∀ p H2,H p=none→Za [] H H2→H2 p=some (.tup xs)→Q (.ref p) H2
def Zfn(t:TA):TE:=fun σ H Q=>t σ H fun xs H1=>mkN xs H1 Q
def Znd(H:Hp)(Q:VK):Prop:=∀ p H',H p=none→Za [] H H'→H' p=some (.dT [])→Q (.ref p) H'
def Zqa:TE:=fun _ H Q=>Znd H Q
section
variable {X:Cx}
theorem Zly{es:List Expr}{t:TA}{x1}{pos:Pos}(h:PA X es t):PE X (.Tuple es x1 pos) (Zfn t):=by
 refine⟨fun pins s σ H Q I hq=>?_⟩
 refine wpAny_Tuple_spliced (thn (h.run pos pins s σ H _ I hq) fun us s1 ⟨xs,H1,I1,r,z,q⟩=>⟨by rw[← r.length]; exact z,?_⟩)
 have hf:H1 s1.heap.objs.size=none:=I1.hok.fresh (YO _)
 refine⟨.ref s1.heap.objs.size,upd H1 s1.heap.objs.size (.tup xs),I1.laid (t':=s1.toks) (fun b u e=>YL _ e) (YO _) ?_,rfl,q _ _ hf (Za.new hf) Y8⟩
 exact⟨z,us,r,⟨_,YM _ rfl,rfl,_,rfl⟩⟩
end
theorem RoomH.units{k:Nat}{A:Around}(r:RoomH k A):A.units + 64 < cLine:=by have:=r.un; omega
structure InsC(K:YA)(C:YD)(nm:List Str):Prop where
 cls:Cls K C
 no:∀ f∈nm,NoAttr K C f
def Zr4(K:YA)(f:Str)(x:V)(H:Hp)(Q:VK):Prop:=∃ a C dx fs v,x = .ref a∧H a=some (.ins C dx fs)∧Cls K C∧NoAttr K C f∧fs.lookup f=some v∧Q v H
def Zth(K:YA)(f:Str)(x y:V)(H:Hp)(R:Hp→Prop):Prop:=∃ a C dx fs,x = .ref a∧H a=some (.ins C dx fs)∧Cls K C∧NoAttr K C f∧fs.length < 1000∧R (upd H a (.ins C dx (putF f y fs)))
def Zti(K:YA)(f:Str)(rd:V→V→Hp→VK→Prop)(x:V)(tv:Hp→VK→Prop)(H:Hp)(R:Hp→Prop):Prop:=∃ a C dx fs v,x = .ref a∧H a=some (.ins C dx fs)∧Cls K C∧NoAttr K C f∧fs.lookup f=some v ∧
 tv H fun y H2=>rd v y H2 fun z H3=>∃ dx' fs',H3 a=some (.ins C dx' fs')∧fs'.length < 1000∧R (upd H3 a (.ins C dx' (putF f z fs')))
section
variable {K:YA} {σ:L2.St} {H:Hp} {Q:VK} {D:Ends} {S:List YD} {C a dx:YD} {fs:List (Str×V)} {nm:List Str} {f:Str}
theorem Zr5{ta:TE}:Xg K ta f σ H Q=ta σ H fun x H1=>Zr4 K f x H1 Q:=rfl
theorem Zqb{ta tv:TE}:sFld K ta tv f D σ H=tv σ H fun y H1=>ta σ H1 fun x H2=>Zth K f x y H2 (D.nx σ):=rfl
theorem Zqc{ta tv:TE}{rd:V→V→Hp→VK→Prop}:sFldAug K ta tv rd f D σ H=ta σ H fun x H1=>Zti K f rd x (fun H2 Q2=>tv σ H2 Q2) H1 (D.nx σ):=rfl
theorem Zqd{m:Str}{sp:Sp}{E:XK}{ta:TE}{t:TA}:Xj C m sp [] E ta t σ H Q=ta σ H fun x H1=>∃ a dx fs,x = .ref a∧H1 a=some (.ins C dx fs)∧fs.lookup m=none∧t σ H1 fun vs H2=>sp (x :: (vs++[])) H2 Q E:=rfl
theorem Zn6{m:Str}{sp:Sp}{E:L2.St→XK}{ta:TE}{t:TA}:tMethH C m sp E ta t σ H Q=ta σ H fun x H1=>∃ a dx fs,x = .ref a∧H1 a=some (.ins C dx fs)∧fs.lookup m=none∧t σ H1 fun vs H2=>sp (x :: vs) H2 Q (E σ):=rfl
theorem Zqe{t:TA}:Zfn t σ H Q=t σ H fun xs H1=>mkN xs H1 Q:=rfl
theorem Zn7:Zqa σ H Q=Znd H Q:=rfl
theorem Zr6{T:String}{r:V→List V→Hp→VK→Prop}{to:TE}:tBM0 K T r to σ H Q=to σ H fun x H1=>tyV K T x H1∧r x [] H1 Q:=rfl
theorem Zr7{v:V}(h:H a=some (.ins C dx fs))(T:InsC K C nm)(m:f∈nm)(e:fs.lookup f=some v)(q:Q v H):Zr4 K f (.ref a) H Q:=⟨a,C,dx,fs,v,rfl,h,T.cls,T.no f m,e,q⟩
theorem ZiI{xs:List V}(l:xs.length ≤ YK)(h:∀ p H2,H p=none→Za [] H H2→H2 p=some (.tup xs)→Q (.ref p) H2):mkN xs H Q:=⟨l,h⟩
end
end M
namespace M
open PySem PySem.Spec PyProof.Rows L2
def Zr8(e:Int×YG):Str:=match e.2 with
 | .str k _=>k
 | _=>Str.empty
def Zn8(P:YE)(w:YF)(e:Int×YG):Prop:=∃ k tk,e.2=Value.str k tk∧e.1=(PySem.strKind P w).hash k
structure Zlz(P:YE)(w:YF)(ks:List Str)(es:Array (Int×YG))(t:SetTable):Prop where
 good:∀ e∈es.toList,Zn8 P w e
 keys:(es.toList.map Zr8).Perm ks
 nd:ks.Nodup
 few:es.size < scanBound
 fits:t.fits es.size=true
 ris:Ris t.place.toList
 led:w.params.followText "set-order" = true∨t.led=true
def Zr9(P:YE)(w:YF)(h:Heap)(a:YD)(ks:List Str):Prop:=∃ o es ep t,h.get? a=some o∧o.ExactSet∧o.data = .set es ep t∧Zlz P w ks es t
section
variable {P:YE} {w:YF} {h h':Heap} {a:YD} {ks:List Str} {es:Array (Int×YG)} {t:SetTable}
theorem Zn8.is{e:Int×YG}(g:Zn8 P w e)(k:Str):(PySem.strKind P w).is k e.2=true↔Zr8 e=k:=by
 obtain⟨k0,tk,h1,_⟩:=g
 unfold Zr8
 rw[h1]
 show((k0 == k)=true)↔k0=k
 exact beq_iff_eq
theorem Zlz.mem(T:Zlz P w ks es t)(k:Str):k∈ks↔∃ e∈es.toList,(PySem.strKind P w).is k e.2=true:=by
 rw[← T.keys.mem_iff,Yq]
 exact⟨fun⟨e,he,q⟩=>⟨e,he,((T.good e he).is k).2 q⟩,fun⟨e,he,q⟩=>⟨e,he,((T.good e he).is k).1 q⟩⟩
theorem Zlz.len(T:Zlz P w ks es t):es.size=ks.length:=by
 rw[← Array.length_toList,← T.keys.length_eq,Yb]
theorem Zr9.at(R:Zr9 P w h a ks)(k:∀ o,h.get? a=some o→h'.get? a=some o):Zr9 P w h' a ks:=by
 obtain⟨o,es,ep,t,ho,r⟩:=R
 exact⟨o,es,ep,t,k o ho,r⟩
end
section
variable {P:YE} {w:YF} {A:Around} {E:YG→YH→Prop} {s:YH} {a:YD} {ks:List Str}
end
section
variable {X:Cx}
end
section
variable {P:YE} {w:YF} {A:Around} {E:YG→YH→Prop} {s:YH}
end
section
variable {X:Cx}
end
section
variable {K:YA} {P:YE} {w:YF} {σ:L2.St} {H:Hp} {Q:VK} {S:List YD}
end
section
variable {X:Cx}
end
end M
local macro_rules | `(tactic| row_readAll n3) => `(tactic| simp only [Zr5, Zqb, Zqc, Zqd, Zn6, Zqe, Zn7, Zr6, List.append_nil])
local macro_rules | `(tactic| row_readAll fl) => `(tactic| ((with_reducible show Zr4 _ _ (V.ref _) _ _); refine Zr7 (by row_readAll ob) (by assumption) (by decide +kernel) (by rfl) ?_))
local macro_rules | `(tactic| row_readAll s) => `(tactic| first | row_readAll n | row_readAll n2 | row_readAll n3 | row_readAll s2 | row_readAll fl | row_readAll br | row_readAll nx)
local macro_rules | `(tactic| row_readAll kf) => `(tactic| first | assumption | exact Za.free (by assumption) (by row_readAll kf))
local macro_rules | `(tactic| row_readAll km) => `(tactic| first | exact Zn5 | (refine Zmu (by first | exact .inl (by simp) | exact .inr (by row_readAll kf)) ?_; row_readAll km))
local macro_rules | `(tactic| row_readAll kc) => `(tactic| first | exact Za.refl _ _ | exact Za.stepB (by assumption) (by row_readAll km) (by row_readAll kc))
local macro_rules | `(tactic| row_readAll cu) => `(tactic| fail)
local macro_rules | `(tactic| row_readAll s9) => `(tactic| first | row_readAll n | row_readAll n2 | row_readAll n3 | row_readAll s2 | row_readAll fl | row_readAll br | row_readAll nx | row_readAll cu)
local macro_rules | `(tactic| row_readAll go) => `(tactic| repeat row_readAll s9)
local macro_rules | `(tactic| row_readAll s39) => `(tactic| first
 | row_readAll s9
 | ((with_reducible show _ ≤ YK∧_); refine⟨by row_readAll sz,?_⟩)
 | ((with_reducible show mkT _ _ _ _); refine ZV (by row_readAll ln) fun _ _ _ _ _=>?_)
 | ((with_reducible show Zl5 _ (V.str _) (V.ref _) _ _); first | refine Zi7 (by row_readAll sq) ?_ | refine Znp (by row_readAll sq) ?_)
 | (simp only[Bool.or_false,Bool.or_true,Bool.true_or,Bool.false_or,Bool.and_true,Bool.true_and,Bool.false_and,Bool.and_false]))
local macro_rules | `(tactic| row_readAll ga) => `(tactic| repeat row_readAll s39)
namespace M
open PySem L2 L2H
def evD(e:Str×Str):PyData:=.tuple [.str e.1,.str e.2]
structure WA where
 W:YD
 dx:YD
 S:YD
 B:YD
 L:YD
 E:YD
abbrev nmW:List Str:=["left", "statuses", "bindings", "lines", "happened"]
def wFs(A:WA)(n:Int):List (Str×V):=[("left",.int n),("statuses",.ref A.S),("bindings",.ref A.B),("lines",.ref A.L),("happened",.ref A.E)]
structure Zdh(K:YA)(H:Hp)(C:YD)(A:WA)(w:Wd):Prop where
 obj:H A.W=some (.ins C A.dx (wFs A w.left))
 st:∃ m,H A.S=some (.dK m)∧ZbF kS (fun v s=>v = .str s) m w.st
 vs:∃ m,H A.B=some (.dT m)∧ZbF kT (fun v x=>Im K H v (Vl.d x)) m w.vs
 sh:∃ l,H A.L=some (.lst l)∧ImAll K H l (w.shown.map Vl.d)
 ev:∃ l,H A.E=some (.lst l)∧ImAll K H l (w.ev.map evD)
 ne:A.L≠A.E
def WA.fp(A:WA):List YD:=[A.W,A.S,A.B,A.L,A.E]
section
variable {K:YA} {H H':Hp} {C:YD} {A:WA} {w:Wd} {S:List YD}
theorem Zdh.keep(x:Zdh K H C A w)(k:Za S H H')(n:∀ b∈A.fp,b∉S):Zdh K H' C A w:=by
 obtain⟨m1,h1,r1⟩:=x.st
 obtain⟨m2,h2,r2⟩:=x.vs
 obtain⟨l3,h3,r3⟩:=x.sh
 obtain⟨l4,h4,r4⟩:=x.ev
 refine⟨k.obj _ _ (n _ (by simp[WA.fp])) x.obj,⟨m1,k.obj _ _ (n _ (by simp[WA.fp])) h1,r1⟩,⟨m2,k.obj _ _ (n _ (by simp[WA.fp])) h2,r2.mono fun v b i=>i.mono k⟩,⟨l3,k.obj _ _ (n _ (by simp[WA.fp])) h3,r3.mono k⟩,⟨l4,k.obj _ _ (n _ (by simp[WA.fp])) h4,r4.mono k⟩,x.ne⟩
theorem Zdh.k0(x:Zdh K H C A w)(k:Za [] H H'):Zdh K H' C A w:=x.keep k fun _ _=>Ya
theorem Zb7{a b:YD}{u v:HO}(h1:H a=some u)(h2:H b=some v)(ne:u≠v):a≠b:=fun e=>by rw[e,h2]at h1; exact ne (Option.some.inj h1).symm
theorem Zdh.ns(x:Zdh K H C A w):A.W≠A.S∧A.W≠A.B∧A.W≠A.L∧A.W≠A.E∧A.S≠A.B∧A.S≠A.L∧A.S≠A.E∧A.B≠A.L∧A.B≠A.E∧A.L≠A.E:=by
 obtain⟨m1,h1,r1⟩:=x.st
 obtain⟨m2,h2,r2⟩:=x.vs
 obtain⟨l3,h3,r3⟩:=x.sh
 obtain⟨l4,h4,r4⟩:=x.ev
 have h0:=x.obj
 exact⟨Zb7 h0 h1 (fun z=>nomatch z),Zb7 h0 h2 (fun z=>nomatch z),Zb7 h0 h3 (fun z=>nomatch z),Zb7 h0 h4 (fun z=>nomatch z),Zb7 h1 h2 (fun z=>nomatch z),Zb7 h1 h3 (fun z=>nomatch z),Zb7 h1 h4 (fun z=>nomatch z),Zb7 h2 h3 (fun z=>nomatch z),Zb7 h2 h4 (fun z=>nomatch z),x.ne⟩
end
def Zcf(K:YA)(C:YD):Sp:=fun vs H Q _=>∃ A w m,vs=[.ref A.W,.str m]∧Zdh K H C A w∧Q (.str (told w m)) H
def ZeI(K:YA)(C:YD):Sp:=fun vs H Q _=>∃ A w m,vs=[.ref A.W,.str m]∧Zdh K H C A w∧w.st.length < 100000∧w.ev.length < 100000 ∧
 ∀ H',Zdh K H' C A { w with st:=ZbE w.st m "running",ev:=w.ev++[(("begin" : Str),m)] }→Za [A.S,A.E] H H'→Q .non H'
def ZeJ(K:YA)(C:YD):Sp:=fun vs H Q _=>∃ A w m,vs=[.ref A.W,.str m]∧Zdh K H C A w∧w.st.length < 100000∧w.ev.length < 100000 ∧
 ∀ H',Zdh K H' C A (Zr3 m w)→Za [A.S,A.E] H H'→Q .non H'
theorem ImAll.add{K:YA}{H:Hp}{l:List V}{v:V}{α : Type}{f : α→PyData}{xs:List α}{x : α}(h:ImAll K H l (xs.map f))(i:Im K H v (f x)):ImAll K H (l++[v]) ((xs++[x]).map f):=by
 rw[Yl]
 exact h.append (.cons i .nil)
def Zfo(K:YA)(C:YD):Sp:=fun vs H Q _=>∃ A w m,vs=[.ref A.W,.str m]∧Zdh K H C A w∧w.ev.length < 100000 ∧
 (told w m = "absent" → Q (.bl false) H)∧(told w m ≠ "absent" → ∀ H',Zdh K H' C A { w with ev:=w.ev++[((if told w m = "running" then "half" else "again" : Str),m)] }→Za [A.E] H H'→Q (.bl true) H')
theorem Zj6{κ α : Type} [DecidableEq κ] {l:List (κ×α)} {k : κ} {x : α} (h:k∉l.map (·.1)):ZbE l k x=l++[(k,x)]:=by
 unfold ZbE
 rw[if_neg]
 intro hh
 rw[List.any_eq_true]at hh
 obtain⟨p,hp,e⟩:=hh
 exact h (by rw[← of_decide_eq_true e]; exact Yv (f:=(·.1)) hp)
mutual
theorem Im.monoT{K:YA}{H H':Hp}(k:∀ a xs,SqT K H a xs→SqT K H' a xs):∀ {v:V} {d:PyData},Im K H v d→Im K H' v d
 | _,_,.non=>.non
 | _,_,.bl b=>.bl b
 | _,_,.int i=>.int i
 | _,_,.str x=>.str x
 | _,_,.tup h a=>.tup (k _ _ h) (ImAll.monoT k a)
theorem ImAll.monoT{K:YA}{H H':Hp}(k:∀ a xs,SqT K H a xs→SqT K H' a xs):∀ {vs:List V} {ds:List PyData},ImAll K H vs ds→ImAll K H' vs ds
 | _,_,.nil=>.nil
 | _,_,.cons h t=>.cons (Im.monoT k h) (ImAll.monoT k t)
end
theorem Zjh{K:YA}{H2:Hp}{d:YD}{u:HO}{od:Obj}(h:H2 d=some (.frz od u))(m:Mut (some u)):∀ a xs,SqT K H2 a xs→SqT K (upd H2 d u) a xs:=by
 intro a xs x
 by_cases e:a=d
 ·subst e
  rcases x with x | x
  ·rcases x with x | ⟨o,x⟩
   ·rw[h]at x; cases x
   ·rw[h]at x; cases x; exact m.elim
  ·exact .inr x
 ·rcases x with x | x
  ·rcases x with x | ⟨o,x⟩
   ·exact .inl (.inl (by rw[upd_ne e]; exact x))
   ·exact .inl (.inr ⟨o,by rw[upd_ne e]; exact x⟩)
  ·exact .inr x
theorem ZlA{H:Hp}{d:YD}{u:HO}{od:Obj}(h:H d=some u)(m:Mut (some u)):Za [d] H (upd H d (.frz od u)):=Za.put h m
section
variable {K:YA} {σ:L2.St} {H:Hp} {Q:VK} {D:Ends} {S:List YD}
def Zqf(x:V)(H:Hp)(R:It→Hp→Prop):Prop:=∃ d o,x = .ref d∧((∃ kvs,H d=some (.frz o (.dK kvs))∧R (Itk d o kvs) H)∨∃ kvs,H d=some (.frz o (.dT kvs))∧R (Itkt d o kvs) H)
theorem Zqg{td:TE}{R:It→Hp→Prop}:iKeys td σ H R=td σ H fun x H1=>Zqf x H1 R:=rfl
theorem Zn9{d:YD}{o:Obj}{kvs:List (Key×V)}{R:It→Hp→Prop}(h:H d=some (.frz o (.dK kvs)))(q:R (Itk d o kvs) H):Zqf (.ref d) H R:=⟨d,o,rfl,.inl ⟨kvs,h,q⟩⟩
end
def Zfp(K:YA)(C:YD):Sp:=fun vs H Q _=>∃ A w m,vs=[.ref A.W,.str m]∧Zdh K H C A w∧w.st.length < 100000∧w.ev.length < 100000∧w.vs.length < 100000∧(w.vs.map (·.1)).Nodup ∧
 ∀ B' H',Zdh K H' C { A with B:=B' } (Zn4 m w)→H B'=none→Za [A.S,A.W,A.E] H H'→Q .non H'
end M
namespace M
open PySem L2 SlX
def Zp(K:YA)(C:YD):Sp:=fun vs H Q _=>∃ a n P fp,vs=[.ref a,.str n]∧ZH K H C a P fp∧Q (.bl (valA P n).isSome) H
def Z_(K:YA)  : TS:=(Xh (tOp rInD (YS 1) (SlX.tSl K (YS 0) "own_blocks")))
def Zdi:List Str:=["self", "x"]
theorem ZcK{K:YA}{C p1 p2:YD}(T:Zd9 K C p1 p2)(vs:List V)(H:Hp)(Q:VK)(E:XK)(h:Zp K C vs H Q E):Z_ K { nx:=fun _ H'=>Q .non H',rt:=Q } (start Zdi vs) H:=by
 obtain⟨a,n,P,fp,rfl,x,q⟩:=h
 show Z_ K _ [some (.ref a),some (.str n)] H
 unfold Z_
 obtain⟨dx,nl,d,rfl,h1,h2,h3,m,h4,r4⟩:=x.ex
 row_readAll go
 refine⟨a,C,dx,p2,_,_,_,rfl,h1,T.c,T.s2,rfl,?_⟩
 refine ZrM h4 ?_
 have e:(valV m (.inr n)).isSome=(valA P n).isSome:=by
  rcases r4.val Zak n with⟨e1,e2⟩ | ⟨v,b,e1,e2,e3⟩
  ·rw[show valV m (.inr n)=none from e1,e2]; rfl
  ·rw[show valV m (.inr n)=some v from e1,e2]; rfl
 rw[e]
 exact q
def Zl(K:YA)(C:YD):Sp:=fun vs H Q _=>∃ a n P fp b,vs=[.ref a,.str n]∧ZH K H C a P fp∧valA P n=some b∧∀ v,Im K H v (.tuple (blkD b))→Q v H
def Zac(K:YA)  : TS:=(Y9 (Xi (tB (tOp rNotInD (YS 1) (SlX.tSl K (YS 0) "own_blocks"))) tNever Xo)
 (Xh (tOp rIxD (SlX.tSl K (YS 0) "own_blocks") (YS 1))))
def ZdD:List Str:=["self", "at"]
theorem ZcW{K:YA}{C p1 p2:YD}(T:Zd9 K C p1 p2)(vs:List V)(H:Hp)(Q:VK)(E:XK)(h:Zl K C vs H Q E):Zac K { nx:=fun _ H'=>Q .non H',rt:=Q } (start ZdD vs) H:=by
 obtain⟨a,n,P,fp,b,rfl,x,e,q⟩:=h
 show Zac K _ [some (.ref a),some (.str n)] H
 unfold Zac
 obtain⟨dx,nl,d,rfl,h1,h2,h3,m,h4,r4⟩:=x.ex
 rcases r4.val Zak n with⟨e1,e2⟩ | ⟨v,b',e1,e2,e3⟩
 ·rw[e]at e2; cases e2
 ·rw[e]at e2
  cases e2
  row_readAll go
  refine⟨a,C,dx,p2,_,_,_,rfl,h1,T.c,T.s2,rfl,?_⟩
  refine Zg7 h4 ?_
  rw[show valV m (.inr n)=some v from e1]
  simp only[Option.isSome_some,Bool.not_true]
  row_readAll go
  refine⟨a,C,dx,p2,_,_,_,rfl,h1,T.c,T.s2,rfl,?_⟩
  exact ZhD h4 e1 (q v e3)
end M
namespace M
open PySem L2 L2H SlX
def ZI(K:YA)(n:Nat):Sp:=fun vs H Q _=>∃ v bv b base,vs=[v,.ref bv]∧Im K H v (.tuple (blkD b))∧Im K H (.ref bv) (ZcJ base)∧depL b < n∧(walkL base 0 b).length ≤ 100000∧base.length + 2 * n ≤ 1000 ∧
 ∀ p ws H',H p=none→Za [] H H'→H' p=some (.lst ws)→ImAll K H' ws ((walkL base 0 b).map Zgi)→Q (.ref p) H'
def ZcC(K:YA)(sp:Sp):TS:=(tFor (iRng1 (YT (tCB (rLen K) (YT (YS 4) YZ)) YZ)) (Y4 5) (Xk (tOp (rAdd K) (YS 2) (Xm sp [] E0 (YT (tOp (rIx K) (YS 4) (YS 5)) (YT (tOp (rAdd K) (YS 7) (Zs K (YT (YS 5) YZ))) YZ)))) (Y4 2)))
def Zb8(K:YA)(sp:Sp):TS:=(Y9 (Xk (tIf (Xc (tOp (ZbH K) (tOp (rIx K) (YS 6) (tC (.int 0))) (tC (.str "def")))) (Zbo (YT (tOp (rIx K) (YS 6) (tC (.int 2))) YZ)) (Zbo YZ)) (Y4 4))
 (Y9 (Xi (Xc (tOp (Zl5 K) (tOp (rIx K) (YS 6) (tC (.int 0))) (Zs K (YT (tC (.str "if")) (YT (tC (.str "try")) YZ))))) (Xk (Zbo (YT (tOp (rIx K) (YS 6) (tC (.int 2))) (YT (tOp (rIx K) (YS 6) (tC (.int 3))) YZ))) (Y4 4)) Xo)
 (ZcC K sp)))
def ZfZ(K:YA)(sp:Sp):TS:=(Y9 (Xn (tBM K "list" rAppend (YS 2) (YT (Zs K (YT (YS 7) (YT (YS 6) YZ))) YZ)))
 (Zb8 K sp))
def ZdE(K:YA)(sp:Sp):TS:=(Y9 (tPar 6 7 (YT (tOp (rIx K) (YS 0) (YS 3)) (YT (tOp (rAdd K) (YS 1) (Zs K (YT (YS 3) YZ))) YZ)))
 (ZfZ K sp))
def Zd_(K:YA)(sp:Sp):TS:=(Y9 (Xk (Zbo YZ) (Y4 2))
 (Y9 (tFor (iRng1 (YT (tCB (rLen K) (YT (YS 0) YZ)) YZ)) (Y4 3) (ZdE K sp))
 (Xh (YS 2))))
def ZkF:List Str:=["_law_block", "_law_base", "_law_found", "_law_k", "_law_blocks", "_law_number", "_law_row", "_law_path"]
local macro_rules | `(tactic| row_readAll gb) => `(tactic| repeat (first | row_readAll s | simp only [Bool.or_false, Bool.or_true, Bool.true_or, Bool.false_or, Bool.and_true, Bool.true_and, Bool.false_and, Bool.and_false]))
theorem ZfE{v:V}{xs:List V}:atI (v :: xs) 0=some v:=atI_nat (j:=0) rfl
section
variable {K:YA} {H:Hp} {D:Ends} {v0 v1 v3 v5:Option V}
theorem Zqh{n:Nat}{v6:Option V}{bs:List (List Stm)}{pth:Pth}{fl bl pv:YD}{acc ys:List V}{rows:List (Pth×Stm)}(g:H fl=some (.lst acc))(ia:ImAll K H acc (rows.map Zgi))(gb:H bl=some (.lst ys))(ib:ImAll K H ys (bs.map fun b=>.tuple (blkD b)))(ip:Im K H (.ref pv) (ZcJ pth))(dp:∀ b∈bs,depL b < n)(len:rows.length + (Zb6 pth 0 bs).length ≤ 100000)(hz:pth.length + 1 + 2 * n ≤ 1000)(lb:bs.length ≤ 2)
  (q:∀ fl' acc' v5 H',(fl'=fl∨H fl'=none)→Za [] H H'→H' fl'=some (.lst acc')→ImAll K H' acc' ((rows++Zb6 pth 0 bs).map Zgi)→D.nx [v0,v1,some (.ref fl'),v3,some (.ref bl),v5,v6,some (.ref pv)] H') :
  ZcC K (ZI K n) D [v0,v1,some (.ref fl),v3,some (.ref bl),v5,v6,some (.ref pv)] H:=by
 unfold ZcC
 have yl:ys.length=bs.length:=by rw[ib.length,Yb]
 row_readAll go
 refine ZcN (SqL.of gb) ?_
 row_readAll go
 refine⟨by omega,by omega,?_⟩
 rw[Int.toNat_natCast]
 obtain⟨P1,hP1⟩:∃ P1:Nat→L2.St→Hp→Prop,∀ i' σ' H',P1 i' σ' H'↔(∃ fl' acc' o5,σ'=[v0,v1,some (.ref fl'),v3,some (.ref bl),o5,v6,some (.ref pv)]∧(fl'=fl∨H fl'=none)∧Za [] H H'∧H' fl'=some (.lst acc')∧ImAll K H' acc' ((rows++Zb6 pth 0 (bs.take i')).map Zgi)):=⟨_,fun _ _ _=>Iff.rfl⟩
 refine Zg5 P1 ((hP1 _ _ _).mpr ⟨fl,acc,_,rfl,.inl rfl,Za.refl _ _,g,by simpa[Zb6]using ia⟩) ?_ ?_
 ·intro i σ1 H1 hi hp
  obtain⟨fl',acc',o5,rfl,hfl,k1,g1,i1⟩:=(hP1 _ _ _).mp hp
  clear hp
  obtain⟨y,hy⟩:∃ y,ys[i]? = some y:=⟨ys[i],by simp[hi]⟩
  obtain⟨d,hd,iy⟩:=ib.get hy
  rw[Ym,Option.map_eq_some_iff]at hd
  obtain⟨b,hb,rfl⟩:=hd
  have sp:=Zhl pth hb
  have st:=ZiF pth hb
  row_readAll go
  rw[Int.zero_add]
  refine ZaA (SqL.of (k1.obj _ _ Ya gb)) (atI_nat hy) ?_
  row_readAll go
  refine ZV (by row_readAll ln) fun p2 H2 f2 k2 s2=>?_
  have ip2:=(ip.mono k1).mono k2
  refine Zif ip2.path s2 (by rw[ZaF]; simp; omega) fun p3 H3 k3 s3=>?_
  have ip3:Im K H3 (.ref p3) (ZcJ (pth++[i])):=ZfD (by simpa using s3)
  have kk3:=(k1.trans k2).trans k3
  row_readAll go
  have ln2:(walkL (pth++[i]) 0 b).length + (Zb6 pth 0 (bs.take i)).length ≤ (Zb6 pth 0 bs).length:=by
   rw[sp]; simp only[Yc]; omega
  refine⟨y,p3,b,pth++[i],rfl,iy.mono kk3,ip3,dp b (Yj hb),by omega,by simp; omega,fun p4 ws H4 f4 k4 g4 i4=>?_⟩
  have k14:=((k2.trans k3).trans k4)
  have g14:=k14.obj _ _ Ya g1
  have la:acc'.length=rows.length + (Zb6 pth 0 (bs.take i)).length:=by rw[i1.length,Yb,Yc]
  have lw:ws.length=(walkL (pth++[i]) 0 b).length:=by rw[i4.length,Yb]
  refine ZkR g14 g4 (by rw[ZaF]; omega) fun p5 H5 f5 k5 g5=>?_
  row_readAll go
  have kk5:=(k1.trans k14).trans k5
  refine(hP1 _ _ _).mpr ⟨p5,_,_,rfl,.inr ((k1.trans k14).free f5),kk5,g5,?_⟩
  rw[st,← Ys,Yl]
  exact((i1.mono k14).mono k5).append (i4.mono k5)
 ·intro σ1 H1 hp
  obtain⟨fl',acc',o5,rfl,hfl,k1,g1,i1⟩:=(hP1 _ _ _).mp hp
  rw[yl,Yt]at i1
  exact q fl' acc' o5 H1 hfl k1 g1 i1
theorem Zqi{n:Nat}{v4:Option V}{s:Stm}{pth:Pth}{vr:V}{fl pv:YD}{acc:List V}{rows:List (Pth×Stm)}(hi:Im K H vr s.d)(g:H fl=some (.lst acc))(ia:ImAll K H acc (rows.map Zgi))(ip:Im K H (.ref pv) (ZcJ pth))(dp:s.dep ≤ n)(len:rows.length + (s.sub pth).length ≤ 100000)(hz:pth.length + 1 + 2 * n ≤ 1000)
  (q:∀ fl' acc' v4 v5 H',(fl'=fl∨H fl'=none)→Za [] H H'→H' fl'=some (.lst acc')→ImAll K H' acc' ((rows++s.sub pth).map Zgi)→D.nx [v0,v1,some (.ref fl'),v3,v4,v5,some vr,some (.ref pv)] H') :
  Zb8 K (ZI K n) D [v0,v1,some (.ref fl),v3,v4,v5,some vr,some (.ref pv)] H:=by
 unfold Zb8
 have fin:∀ bl ys H1,Za [] H H1→H1 bl=some (.lst ys)→ImAll K H1 ys (s.blocks.map fun b=>.tuple (blkD b))→ZcC K (ZI K n) D [v0,v1,some (.ref fl),v3,some (.ref bl),v5,some vr,some (.ref pv)] H1:=fun bl ys H1 k1 gb ib =>
  Zqh (k1.obj _ _ Ya g) (ia.mono k1) gb ib (ip.mono k1) (fun b hb=>by
   obtain⟨k,hk⟩:=Yy hb
   have:=Zhm hk
   omega) (by rw[← Zj3]; exact len) hz (by cases s <;> simp[Stm.blocks]) fun fl' acc' v5 H' hf k g' i'=>q fl' acc' _ v5 H' (hf.imp id fun z=>k1.free z) (k1.trans k) g' (by rw[Zj3]; exact i')
 obtain⟨a,xs,rfl,hs,hv⟩:=hi.stm
 have plain:∀ {wd:Str} {rest:List V},SqT K H a (.str wd :: rest)→decide (wd=YN "def")=false→decide (wd=YN "if")=false→decide (wd=YN "try")=false→s.blocks=[]→Zb8 K (ZI K n) D [v0,v1,some (.ref fl),v3,v4,v5,some (.ref a),some (.ref pv)] H:=by
  intro wd rest hs h1 h2 h3 hb
  unfold Zb8
  row_readAll go
  refine Zki hs ZfE ?_
  row_readAll go
  rw[h1]
  row_readAll go
  refine Zbg (by simp) fun bl H1 f1 k1 g1=>?_
  row_readAll go
  refine Zki (k1.sqT hs) ZfE ?_
  row_readAll go
  refine ZV (by row_readAll ln) fun p2 H2 f2 k2 s2=>?_
  refine Zi7 s2 ?_
  rw[h2,h3]
  simp only[Bool.or_false]
  row_readAll go
  exact fin bl [] H2 (k1.trans k2) (k2.obj _ _ Ya g1) (by rw[hb]; exact .nil)
 cases s with
 | set x e=>obtain⟨v2,rfl,_⟩:=hv; exact plain hs (by decide +kernel) (by decide +kernel) (by decide +kernel) rfl
 | del x=>cases hv; exact plain hs (by decide +kernel) (by decide +kernel) (by decide +kernel) rfl
 | shw e=>obtain⟨v2,rfl,_⟩:=hv; exact plain hs (by decide +kernel) (by decide +kernel) (by decide +kernel) rfl
 | call e=>obtain⟨v2,rfl,_⟩:=hv; exact plain hs (by decide +kernel) (by decide +kernel) (by decide +kernel) rfl
 | raise=>cases hv; exact plain hs (by decide +kernel) (by decide +kernel) (by decide +kernel) rfl
 | imp t x=>cases hv; exact plain hs (by decide +kernel) (by decide +kernel) (by decide +kernel) rfl
 | frm t y x=>cases hv; exact plain hs (by decide +kernel) (by decide +kernel) (by decide +kernel) rfl
 | star t=>cases hv; exact plain hs (by decide +kernel) (by decide +kernel) (by decide +kernel) rfl
 | fn x b =>
   obtain⟨v2,rfl,i2⟩:=hv
   row_readAll go
   refine Zbg (by row_readAll ln) fun bl H1 f1 k1 g1=>?_
   row_readAll go
   refine ZV (by row_readAll ln) fun p2 H2 f2 k2 s2=>?_
   refine Zi7 s2 ?_
   row_readAll gb
   exact fin bl _ H2 (k1.trans k2) (k2.obj _ _ Ya g1) (.cons (i2.mono (k1.trans k2)) .nil)
 | ite e b o =>
   obtain⟨v1',v2,v3',rfl,_,i2,i3⟩:=hv
   row_readAll go
   refine Zbg (by simp) fun bl H1 f1 k1 g1=>?_
   row_readAll go
   refine ZV (by row_readAll ln) fun p2 H2 f2 k2 s2=>?_
   refine Zi7 s2 ?_
   row_readAll gb
   refine Zbg (by row_readAll ln) fun bl2 H3 f3 k3 g3=>?_
   have kk:=(k1.trans k2).trans k3
   row_readAll gb
   exact fin bl2 _ H3 kk g3 (.cons (i2.mono kk) (.cons (i3.mono kk) .nil))
 | tri k b o =>
   obtain⟨v2,v3',rfl,i2,i3⟩:=hv
   row_readAll go
   refine Zbg (by simp) fun bl H1 f1 k1 g1=>?_
   row_readAll go
   refine ZV (by row_readAll ln) fun p2 H2 f2 k2 s2=>?_
   refine Zi7 s2 ?_
   row_readAll gb
   refine Zbg (by row_readAll ln) fun bl2 H3 f3 k3 g3=>?_
   have kk:=(k1.trans k2).trans k3
   row_readAll gb
   exact fin bl2 _ H3 kk g3 (.cons (i2.mono kk) (.cons (i3.mono kk) .nil))
theorem Zqj{n i:Nat}{v2 v4 v5 v6 v7:Option V}{b:List Stm}{s:Stm}{base:Pth}{a bv fl:YD}{xs acc:List V}(hs:SqT K H a xs)(ha:ImAll K H xs (blkD b))(hb:Im K H (.ref bv) (ZcJ base))(es:b[i]? = some s)(g:H fl=some (.lst acc))(ia:ImAll K H acc ((walkL base 0 (b.take i)).map Zgi))(dp:depL b < n + 1)(len:(walkL base 0 b).length ≤ 100000)(hz:base.length + 2 * (n + 1) ≤ 1000)
  (q:∀ fl' acc' v4 v5 v6 v7 H',(fl'=fl∨H fl'=none)→Za [fl] H H'→H' fl'=some (.lst acc')→ImAll K H' acc' ((walkL base 0 (b.take (i + 1))).map Zgi)→D.nx [some (.ref a),some (.ref bv),some (.ref fl'),some (.int (i:Nat)),v4,v5,v6,v7] H') :
  ZdE K (ZI K n) D [some (.ref a),some (.ref bv),some (.ref fl),some (.int (i:Nat)),v4,v5,v6,v7] H:=by
 unfold ZdE
 obtain⟨d,hd⟩:∃ d,(blkD b)[i]? = some d∧d=s.d:=by
  rw[Zby,Ym,es]
  exact⟨_,rfl,rfl⟩
 have hil:=ZeF es
 have hxl:xs.length=b.length:=by rw[ha.length,ZbI]
 obtain⟨x,hx⟩:∃ x,xs[i]? = some x:=⟨xs[i]'(by omega),by simp⟩
 obtain⟨d2,hd2,ix⟩:=ha.get hx
 rw[hd.1,hd.2]at hd2
 cases hd2
 have hdep:=ZhA es
 have wsp:=Zhk base es
 have wtk:=ZiE base es
 have ll:(walkL base 0 (b.take i)).length + 1 + (s.sub (base++[i])).length ≤ 100000:=by
  rw[wsp]at len
  simp only[Yc,Yd]at len
  omega
 have hal:acc.length=(walkL base 0 (b.take i)).length:=by rw[ia.length,Yb]
 row_readAll go
 refine Zki hs (atI_nat hx) ?_
 refine ZV (by row_readAll ln) fun p1 H1 f1 k1 s1=>?_
 refine Zif (hb.mono k1).path s1 (by rw[ZaF]; simp; omega) fun p2 H2 k2 s2=>?_
 have ip:Im K H2 (.ref p2) (ZcJ (base++[i])):=ZfD (by simpa using s2)
 row_readAll go
 unfold ZfZ
 have g2:=(k1.trans k2).obj _ _ Ya g
 row_readAll go
 refine ZoR g2 ?_
 refine ZV (by row_readAll ln) fun p3 H3 f3 k3 s3=>?_
 have k13:=(k1.trans k2).trans k3
 refine Ze4 (k3.obj _ _ Ya g2) (by rw[ZaF]; omega) fun H4 k4 g4=>?_
 row_readAll go
 have k04:Za [fl] H H4:=k13.nil.trans k4
 have i4:ImAll K H4 (acc++[.ref p3]) ((walkL base 0 (b.take i)++[(base++[i],s)]).map Zgi):=by
  rw[Yl]
  exact((ia.mono k13).mono k4).append (.cons (.tup (k4.sqT s3) (.cons ((ip.mono k3).mono k4) (.cons ((ix.mono k13).mono k4) .nil))) .nil)
 refine Zqi ((ix.mono k13).mono k4) g4 i4 ((ip.mono k3).mono k4) (by omega) (by simp only[Yc,Yd,Yi]; omega) (by simp; omega) fun fl' acc' v4 v5 H5 hf k5 g5 i5=>?_
 refine q fl' acc' _ _ _ _ H5 (hf.imp id fun z=>k04.free z) (k04.step0 k5) g5 ?_
 rw[wtk]
 simpa[Ys]using i5
end
theorem Zh0{K:YA}{n:Nat}(vs:List V)(H:Hp)(Q:VK)(E:XK)(h:ZI K (n + 1) vs H Q E):Zd_ K (ZI K n) { nx:=fun _ H'=>Q .non H',rt:=Q } (start ZkF vs) H:=by
 obtain⟨v,bv,b,base,rfl,hi,hb,hd,hn,hz,q⟩:=h
 show Zd_ K _ _ [some v,some (.ref bv),none,none,none,none,none,none] H
 unfold Zd_
 obtain⟨a,xs,rfl,hs,ha⟩:=hi.of_tup
 have hxl:xs.length=b.length:=by rw[ha.length,ZbI]
 row_readAll go
 refine Zbg (by simp) fun l H1 hl k1 h1=>?_
 row_readAll go
 refine Zig (k1.sqT hs) ?_
 row_readAll go
 have bl:b.length ≤ 100000:=by
  have:∀ (b:List Stm) (base:Pth) (j:Nat),b.length ≤ (walkL base j b).length:=by
   intro b
   induction b with
   | nil=>intro _ _; simp
   | cons s r ih=>intro base j; have:=ih base (j + 1); simp only[walkL,Yd,Yc]; omega
  have:=this b base 0
  omega
 refine⟨by omega,by omega,?_⟩
 rw[Int.toNat_natCast]
 obtain⟨P1,hP1⟩:∃ P1:Nat→L2.St→Hp→Prop,∀ i' σ' H',P1 i' σ' H'↔(∃ fl acc o3 o4 o5 o6 o7,σ'=[some (.ref a),some (.ref bv),some (.ref fl),o3,o4,o5,o6,o7]∧H fl=none∧Za [] H H'∧H' fl=some (.lst acc)∧ImAll K H' acc ((walkL base 0 (b.take i')).map Zgi)):=⟨_,fun _ _ _=>Iff.rfl⟩
 refine Zg5 P1 ((hP1 _ _ _).mpr ⟨l,[],_,_,_,_,_,rfl,hl,k1,h1,by simpa[walkL]using .nil⟩) ?_ ?_
 ·intro i σ1 H2 hi2 hp
  obtain⟨fl,acc,o3,o4,o5,o6,o7,rfl,ffl,k2,g2,i2⟩:=(hP1 _ _ _).mp hp
  clear hp
  obtain⟨s,es⟩:∃ s,b[i]? = some s:=⟨b[i]'(by omega),by simp⟩
  row_readAll go
  rw[Int.zero_add]
  refine Zqj (v2:=none) (k2.sqT hs) (ha.mono k2) (hb.mono k2) es g2 i2 hd hn hz fun fl' acc' o4 o5 o6 o7 H3 hf k3 g3 i3=>(hP1 _ _ _).mpr ⟨fl',acc',_,_,_,_,_,rfl,?_,k2.step1 k3 ffl,g3,i3⟩
  rcases hf with rfl | z
  ·exact ffl
  ·exact k2.free z
 ·intro σ1 H2 hp
  obtain⟨fl,acc,o3,o4,o5,o6,o7,rfl,ffl,k2,g2,i2⟩:=(hP1 _ _ _).mp hp
  rw[hxl,Yt]at i2
  row_readAll go
  exact q fl acc H2 ffl k2 g2 i2
end M
namespace M
open PySem L2 L2H
structure CA where
 CI:YD
 CW:YD
 CP:YD
 CF:YD
 CS:YD
abbrev nmI:List Str:=["own_program", "world", "under"]
structure CC(K:YA)(c:CA):Prop where
 i:InsC K c.CI nmI
 w:InsC K c.CW nmW
 ff:PySem.W.exmOne K (.ref c.CF) (.ref c.CF)=some true
 sf:PySem.W.exmOne K (.ref c.CS) (.ref c.CF)=some false
 ss:PySem.W.exmOne K (.ref c.CS) (.ref c.CS)=some true
def Zn_(p:Plc):PyData:=.tuple [.str p.1,ZcJ p.2]
structure IA where
 I:YD
 dI:YD
 U:YD
 prg:YD
 pf:List YD
 w:WA
def IA.fx(A:IA):List YD:=[A.w.W,A.w.S,A.w.B,A.w.L,A.w.E,A.U]
def iFs(A:IA):List (Str×V):=[("own_program",.ref A.prg),("world",.ref A.w.W),("under",.ref A.U)]
structure Zcv(K:YA)(H:Hp)(c:CA)(A:IA)(P:Prg)(w:Wd)(un:List Plc):Prop where
 obj:H A.I=some (.ins c.CI A.dI (iFs A))
 wld:Zdh K H c.CW A.w w
 und:∃ l,H A.U=some (.lst l)∧ImAll K H l (un.map Zn_)
 prg:ZH K H c.CP A.prg P A.pf
 ne:A.U≠A.w.L∧A.U≠A.w.E∧A.I≠A.w.W
 pfd:∀ b∈A.pf,b∉A.fx
section
variable {K:YA} {H H':Hp} {c:CA} {A:IA} {P:Prg} {w:Wd} {un:List Plc} {S:List YD}
theorem Zcv.ns(x:Zcv K H c A P w un):A.I∉A.fx∧A.U≠A.w.W∧A.U≠A.w.S∧A.U≠A.w.B∧A.U≠A.w.L∧A.U≠A.w.E:=by
 obtain⟨m1,h1,r1⟩:=x.wld.st
 obtain⟨m2,h2,r2⟩:=x.wld.vs
 obtain⟨l3,h3,r3⟩:=x.wld.sh
 obtain⟨l4,h4,r4⟩:=x.wld.ev
 obtain⟨l5,h5,r5⟩:=x.und
 have h0:=x.wld.obj
 have hI:=x.obj
 refine⟨?_,Zb7 h5 h0 (fun z=>nomatch z),Zb7 h5 h1 (fun z=>nomatch z),Zb7 h5 h2 (fun z=>nomatch z),x.ne.1,x.ne.2.1⟩
 simp only[IA.fx,Yn,Ya,or_false,not_or]
 exact⟨x.ne.2.2,Zb7 hI h1 (fun z=>nomatch z),Zb7 hI h2 (fun z=>nomatch z),Zb7 hI h3 (fun z=>nomatch z),Zb7 hI h4 (fun z=>nomatch z),Zb7 hI h5 (fun z=>nomatch z)⟩
theorem Zr_{A:IA}{b:YD}(h:b∈A.w.fp):b∈A.fx:=by
 simp only[WA.fp,IA.fx,Yn,Ya,or_false]at h ⊢
 rcases h with rfl | rfl | rfl | rfl | rfl <;> simp
theorem Zcv.keep(x:Zcv K H c A P w un)(k:Za S H H')(n1:A.I∉S)(n2:∀ b∈A.fx,b∉S)(n3:∀ b∈A.pf,b∉S):Zcv K H' c A P w un:=by
 obtain⟨l5,h5,r5⟩:=x.und
 exact⟨k.obj _ _ n1 x.obj,x.wld.keep k (fun b hb=>n2 b (Zr_ hb)),⟨l5,k.obj _ _ (n2 _ (by simp[IA.fx])) h5,r5.mono k⟩,x.prg.keep k n3,x.ne,x.pfd⟩
theorem Zcv.k0(x:Zcv K H c A P w un)(k:Za [] H H'):Zcv K H' c A P w un:=x.keep k Ya (fun _ _=>Ya) fun _ _=>Ya
end
def FE(K:YA)(c:CA)(k:Str)(t:List Plc)(H:Hp)(E:XK):Prop:=∀ d pv H',Za [] H H'→H d=none→H' d=some (.xd [("places",pv),("kind",.str k)])→Im K H' pv (.tuple (t.map Zn_))→E (.ref c.CF) (some d) H'
def SE(K:YA)(c:CA)(t:List Plc)(H:Hp)(E:XK):Prop:=∀ d pv H',Za [] H H'→H d=none→H' d=some (.xd [("places",pv)])→Im K H' pv (.tuple (t.map Zn_))→E (.ref c.CS) (some d) H'
theorem FE.mono{K:YA}{c:CA}{k:Str}{t:List Plc}{H H1:Hp}{E:XK}(f:FE K c k t H E)(k1:Za [] H H1):FE K c k t H1 E:=fun d pv H' k' fd hd i=>f d pv H' (k1.trans k') (k1.free fd) hd i
abbrev w0(E:XK):WX:=fun cls d _ H=>E cls d H
def ZS(K:YA)(c:CA):Sp:=fun vs H Q E=>∃ A P w un k,vs=[.ref A.I,.str k]∧Zcv K H c A P w un∧FE K c k un H E
end M
namespace M
open PySem PySem.Spec PyProof.Rows L2
abbrev NK:=NestedKey
mutual
def nkD:NK→PyData
 | .none=>.none
 | .num i=>.int i
 | .text x=>.str x
 | .tup ks=>.tuple (nkDs ks)
def nkDs:List NK→List PyData
 | []=>[]
 | k :: ks=>nkD k :: nkDs ks
end
mutual
theorem Zoa:∀ {a b:NK},nkD a=nkD b→a=b
 | .none,b,h=>by cases b <;> simp[nkD]at h ⊢
 | .num i,b,h=>by cases b <;> simp[nkD]at h ⊢; exact h
 | .text x,b,h=>by cases b <;> simp[nkD]at h ⊢; exact h
 | .tup ks,b,h=>by
   cases b with
   | tup ls=>simp only[nkD,PyData.tuple.injEq]at h; rw[nkDs_inj h]
   | none=>simp[nkD]at h
   | num i=>simp[nkD]at h
   | text x=>simp[nkD]at h
theorem nkDs_inj:∀ {a b:List NK},nkDs a=nkDs b→a=b
 | [],[],_=>rfl
 | [],_ :: _,h=>by simp[nkDs]at h
 | _ :: _,[],h=>by simp[nkDs]at h
 | x :: r,y :: t,h=>by
   simp only[nkDs,List.cons.injEq]at h
   rw[Zoa h.1,nkDs_inj h.2]
end
section
variable {X:Cx} {pins:List (YD×Obj)} {σ:L2.St} {H:Hp} {s:YH} {a b:YD}
mutual
theorem Zsa(I:Inv X pins σ H s):∀ {k:NK} {v:V} {u:YG},Im X.K H v (nkD k)→RelV v u→NestedIs s.heap k u
 | .none,v,u,i,r=>by
   simp only[nkD]at i
   cases i
   cases (show u=Value.none from r)
   exact .none
 | .num n,v,u,i,r=>by
   simp only[nkD]at i
   cases i.of_int
   obtain⟨tk,rfl⟩:=r
   exact .int _ _
 | .text x,v,u,i,r=>by
   simp only[nkD]at i
   cases i.of_str
   obtain⟨tk,rfl⟩:=r
   exact .text _ _
 | .tup ks,v,u,i,r=>by
   simp only[nkD]at i
   obtain⟨a,xs,rfl,sx,ax⟩:=i.of_tup
   cases (show u=Value.ref a from r)
   obtain⟨its,rv,⟨o,h1,h2,n,h3⟩,_⟩:=I.tuple sx
   exact .tup h1 h2 h3 (by simpa using nk_all I ax rv)
theorem nk_all(I:Inv X pins σ H s):∀ {ks:List NK} {vs:List V} {us:List YG},ImAll X.K H vs (nkDs ks)→Vals vs us→NestedAll s.heap ks us
 | [],vs,us,i,r=>by
   simp only[nkDs]at i
   cases i.of_nil
   cases r
   exact .nil
 | k :: ks,vs,us,i,r=>by
   simp only[nkDs]at i
   obtain⟨v,l,rfl,h1,h2⟩:=i.of_cons
   cases r with
   | cons r1 r2=>exact .cons (Zsa I h1 r1) (nk_all I h2 r2)
end
end
abbrev NKV:=List (NK×YD×V)
abbrev ZsN(m:NKV)(xs:List (NK×YD×YG)):Prop:=Paired (fun(p:NK×YD×V) (x:NK×YD×YG)=>x.1=p.1∧x.2.1=p.2.1∧RelV p.2.2 x.2.2) m xs
def ZsO(P:YE)(w:YF)(h:Heap)(d:YD)(xs:List (NK×YD×YG)):Prop:=∃ o es ep,h.get? d=some o∧o.ExactDict∧o.data = .dict es ep∧es.toList=xs.map (entryOfKey (nestedKind P w))∧(xs.map (·.1)).Nodup
def DKo(P:YE)(w:YF)(d:YD)(m:NKV):HO:=.ext fun h=>m.length ≤ YK∧(d == sysModules)=false∧∃ xs,ZsN m xs∧ZsO P w h d xs
structure DK(K:YA)(P:YE)(w:YF)(H:Hp)(d:YD)(m:NKV):Prop where
 obj:H d=some (DKo P w d m)
 keys:∀ x∈m,x.1.depth ≤ 8∧Im K H (.ref x.2.1) (nkD x.1)
theorem DK.keep{K:YA}{P:YE}{w:YF}{H H':Hp}{d:YD}{m:NKV}{S:List YD}(x:DK K P w H d m)(k:Za S H H')(n:d∉S):DK K P w H' d m:=⟨k.obj _ _ n x.obj,fun y hy=>⟨(x.keys y hy).1,(x.keys y hy).2.mono k⟩⟩
theorem Zqk{P:YE}{w:YF}{H:Hp}{h:Heap}{d:YD}{m:NKV}{xs:List (NK×YD×YG)}(z:m.length ≤ YK)(hd:(d == sysModules)=false)(r:ZsN m xs)(q:ZsO P w h d xs):ObjOk P w H h d (DKo P w d m):=by
 obtain⟨o,es,ep,h1,h2⟩:=id q
 refine⟨⟨z,hd,xs,r,q⟩,⟨o,h1⟩,fun ha hb x st=>?_⟩
 obtain⟨a1,a2,ys,a3,o',es',ep',b1,b2⟩:=x
 exact⟨a1,a2,ys,a3,o',es',ep',st _ b1,b2⟩
section
variable {X:Cx} {pins:List (YD×Obj)} {σ:L2.St} {H:Hp} {s:YH} {d b:YD} {m:NKV} {p:NK} {o i e:Expr} {pos:Pos} {td ty:TE}
def tDNewK(K:YA)(P:YE)(w:YF):TE:=fun _ H Q=>∀ p H',H p=none→Za [] H H'→DK K P w H' p []→Q (.ref p) H'
theorem pe_dnewK:PE X (.Dict [] [] pos) (tDNewK X.K X.prog X.w):=by
 refine⟨fun pins s σ H Q I h=>?_⟩
 have hn:=I.hok.fresh (YO s.heap.objs.size)
 have new:∀ H',ObjOk X.prog X.w H' (s.heap.push { cls:=.type "dict",data:=.dict #[] }) s.heap.objs.size (DKo X.prog X.w s.heap.objs.size []):=fun H'=>by
  obtain⟨o,es,ep,h1,h2,h3,h4,_,h5⟩:=Heap.DictOfH.new (knd:=nestedKind X.prog X.w) s.heap
  exact Zqk (YP _) (beq_eq_false_iff_ne.mpr (Ne.symm (YQ I.big))) .nil ⟨o,es,ep,h1,h2,h3,h4,h5⟩
 exact wpAny_Dict_empty ⟨.ref s.heap.objs.size,_,I.laid (a:=s.heap.objs.size) (o:=DKo X.prog X.w s.heap.objs.size []) (t':=s.toks) (fun _ _ q=>YL _ q) (YO _) (new _),rfl,h _ _ hn (Za.new hn) ⟨Y8,fun x hx=>by cases hx⟩⟩
end
structure Ztt(P:YE)(w:YF)(K:YA)(mg:Str→Option YG)(base:Heap)(k:Nat)(C:YD)(m:Str)(sp:Sp):Prop where
 ex:∃ g,Cls K C∧Meth K C m g∧FnR P w K mg base CX0 k g sp
section
variable {X:Cx} {k j:Nat} {C:YD} {m:Str} {sp:Sp} {apos pos:Pos} {e o:Expr} {es:List Expr} {ta:TE} {t:TA}
theorem FunD.starR{P:YE}{w:YF}{K:YA}{mg:Str→Option YG}{base:Heap}{k:Nat}{f:YD}{fd:YC}{x qual:Str}{params:Arguments}{body:List YI}{scope:Scope}{N ps:List Str}{pv:Str}{sp:Sp}
  (F:FunD K x qual params body scope [] [] f fd) (S:Y_ N (ps++[pv]) scope)
  (hb:∀ (kV doc pm:YG) (an:Option YD) (cdv ct:YG) (us rest:List YG),us.length=ps.length→bindArgs (PySem.W.fnOf x qual params body scope .none kV doc pm an cdv ct) ⟨us++rest,[]⟩=(newTuple rest >>= fun t=>pure (ps.zip us++[(pv,t)])))
  (hbody:∀ (cdv:YG) (A:Around) (outer:List Env) (s:YH) (H:Hp) (vs:List V) (Q:VK) (E:XK),Room k (A.deeper (envOfC qual scope s.heap.objs.size f cdv))→sp vs H Q E →
   ∃ t,PSs (cxOf CX0 P w K mg base N qual scope f cdv A outer s H E) body t∧t { nx:=fun _ H'=>Q .non H',rt:=Q } (start N vs) H) :
  FnR P w K mg base CX0 (k + 1) f (fun vs H Q E=>∃ ws rest,vs=ws++rest∧ws.length=ps.length∧rest.length ≤ YK∧∀ p,H p=Option.none→sp (ws++[V.ref p]) (upd H p (.tup rest)) Q E):=by
 obtain⟨oc,od,dV,kV,doc,pm,an,cdv,ct,osl,rfl,lk,hcd,hD,hK⟩:=F.ex
 rcases hD with⟨_,rfl⟩ | ⟨e,_⟩
 ·exact StX.fn_star lk hcd S StX.cxUp_none (hb kV doc pm an cdv ct) fun A outer s H vs Q E hr h=>hbody cdv A outer s H vs Q E hr h
 ·exact absurd rfl e
end
end M
namespace M
open PySem L2 L2H
def Zbi(K:YA)(c:CA):Sp:=fun vs H Q E=>∃ A P w un,vs=[.ref A.I]∧Zcv K H c A P w un∧(w.left=0→SE K c un H E) ∧
 (w.left≠0→∀ H',Zcv K H' c A P { w with left:=w.left - 1 } un→Za [A.w.W] H H'→Q .non H')
def RE(K:YA)(c:CA)(t:List Plc)(H:Hp)(Q:VK)(E:XK):Except Str Vl→Prop
 | .ok x=>∀ v H',Im K H' v x.d→Za [] H H'→Q v H'
 | .error k=>FE K c k t H E
theorem RE.mono{K:YA}{c:CA}{t:List Plc}{H H1:Hp}{Q:VK}{E:XK}{r:Except Str Vl}(f:RE K c t H Q E r)(k1:Za [] H H1):RE K c t H1 Q E r:=by
 cases r with
 | ok x=>exact fun v H' i k=>f v H' i (k1.trans k)
 | error k=>exact FE.mono f k1
def orE{α : Type}(o:Option α)(k:Str):Except Str α:=match o with
 | some x=>.ok x
 | none=>.error k
def Zx(K:YA)(c:CA):Sp:=fun vs H Q E=>∃ A P w un m n k,vs=[.ref A.I,.str m,.str n,.str k]∧Zcv K H c A P w un∧RE K c un H Q E (orE (valA w.vs (m,n)) k)
def Zat(K:YA)(c:CA):Sp:=fun vs H Q _=>∃ A P w un m n v y,vs=[.ref A.I,.str m,.str n,v]∧Zcv K H c A P w un∧Im K H v (Vl.d y)∧w.vs.length < 100000 ∧
 ∀ H',Zcv K H' c A P { w with vs:=ZbE w.vs (m,n) y } un→Za [A.w.B] H H'→Q .non H'
def Zb9(K:YA)(c:CA):Sp:=fun vs H Q E=>∃ A P w un v y,vs=[.ref A.I,v]∧Zcv K H c A P w un∧Im K H v (Vl.d y) ∧
 (match y with
  | .int i=>Q (.int (if i=0 then 1 else 0)) H
  | _=>FE K c "kind" un H E)
section
variable {K:YA} {H:Hp} {v:V}
theorem Im.nm{n:Str}(h:Im K H v (Ex.d (.nm n))):∃ a,v = .ref a∧SqT K H a [.str "name",.str n]:=by
 obtain⟨a,xs,rfl,hs,ha⟩:=(show Im K H v (.tuple [.str "name",.str n])by simpa only[Ex.d]using h).of_tup
 obtain⟨z0,r,rfl,h0,ha⟩:=ha.of_cons
 obtain⟨z1,r,rfl,h1,ha⟩:=ha.of_cons
 cases ha.of_nil; cases h0.of_str; cases h1.of_str
 exact⟨a,rfl,hs⟩
theorem Im.bin{s:Bool}{l t:Ex}(h:Im K H v (Ex.d (.bin s l t))):∃ a x y,v = .ref a∧SqT K H a [.str (opW s),x,y]∧Im K H x (Ex.d l)∧Im K H y (Ex.d t):=by
 obtain⟨a,xs,rfl,hs,ha⟩:=(show Im K H v (.tuple [.str (opW s),l.d,t.d])by simpa only[Ex.d]using h).of_tup
 obtain⟨z0,r,rfl,h0,ha⟩:=ha.of_cons
 obtain⟨z1,r,rfl,h1,ha⟩:=ha.of_cons
 obtain⟨z2,r,rfl,h2,ha⟩:=ha.of_cons
 cases ha.of_nil; cases h0.of_str
 exact⟨a,_,_,rfl,hs,h1,h2⟩
theorem Im.md{m:Str}(h:Im K H v (Vl.d (.md m))):∃ a,v = .ref a∧SqT K H a [.str "module",.str m]:=by
 obtain⟨a,xs,rfl,hs,ha⟩:=(show Im K H v (.tuple [.str "module",.str m])from h).of_tup
 obtain⟨z0,r,rfl,h0,ha⟩:=ha.of_cons
 obtain⟨z1,r,rfl,h1,ha⟩:=ha.of_cons
 cases ha.of_nil; cases h0.of_str; cases h1.of_str
 exact⟨a,rfl,hs⟩
end
def Zq(K:YA)(c:CA)(n:Nat):Sp:=fun vs H Q E=>∃ A P w un m e v,vs=[.ref A.I,.str m,v]∧Zcv K H c A P w un∧Im K H v (Ex.d e)∧e.dep < n∧RE K c un H Q E (evl w.vs m e)
def Zb_(K:YA)(c:CA)(sp:Sp)(W:WX):TS:=(Xh (tIf (Xc (tOp (ZbH K) (tOp (rIx K) (YS 2) (tC (.int 0))) (tC (.str "sum")))) (tOp (rAdd K) (YS 3) (YS 4)) (tCB Ze3 (YT (tOp Zl4 (YS 3) (YS 4)) YZ))))
def Zca(K:YA)(c:CA)(sp:Sp)(W:WX):TS:=(Y9 (Xi (tOr (tNot (tB (Xm (ZF K) [] E0 (YT (YS 3) YZ)))) (tNot (tB (Xm (ZF K) [] E0 (YT (YS 4) YZ))))) (Xn (L2H.tMethH c.CI "refuse" (ZS K c) (WE W) (YS 0) (YT (tC (.str "kind")) YZ))) Xo)
 (Zb_ K c sp W))
def ZaK(K:YA)(c:CA)(sp:Sp)(W:WX):TS:=(Y9 (Xk (L2H.tMethH c.CI "value" sp (WE W) (YS 0) (YT (YS 1) (YT (tOp (rIx K) (YS 2) (tC (.int 2))) YZ))) (Y4 4))
 (Zca K c sp W))
def ZaL(K:YA)(c:CA)(sp:Sp)(W:WX):TS:=(Y9 (Xk (L2H.tMethH c.CI "value" sp (WE W) (YS 0) (YT (YS 1) (YT (tOp (rIx K) (YS 2) (tC (.int 1))) YZ))) (Y4 3))
 (ZaK K c sp W))
def ZaM(K:YA)(c:CA)(sp:Sp)(W:WX):TS:=(Xh (L2H.tMethH c.CI "read" (Zx K c) (WE W) (YS 0) (YT (tOp (rIx K) (YS 5) (tC (.int 1))) (YT (tOp (rIx K) (YS 2) (tC (.int 2))) (YT (tC (.str "missing")) YZ)))))
def ZaN(K:YA)(c:CA)(sp:Sp)(W:WX):TS:=(Y9 (Xi (tOr (tB (Xm (ZF K) [] E0 (YT (YS 5) YZ))) (Xc (tOp (Zie K) (tOp (rIx K) (YS 5) (tC (.int 0))) (tC (.str "module"))))) (Xn (L2H.tMethH c.CI "refuse" (ZS K c) (WE W) (YS 0) (YT (tC (.str "kind")) YZ))) Xo)
 (ZaM K c sp W))
def ZaO(K:YA)(c:CA)(sp:Sp)(W:WX):TS:=(Y9 (Xk (L2H.tMethH c.CI "read" (Zx K c) (WE W) (YS 0) (YT (YS 1) (YT (tOp (rIx K) (YS 2) (tC (.int 1))) (YT (tC (.str "unbound")) YZ)))) (Y4 5))
 (ZaN K c sp W))
def ZaP(K:YA)(c:CA)(sp:Sp)(W:WX):TS:=(Y9 (Xi (Xc (tOp (ZbH K) (tOp (rIx K) (YS 2) (tC (.int 0))) (tC (.str "of")))) (ZaO K c sp W) Xo)
 (ZaL K c sp W))
def ZdF(K:YA)(c:CA)(sp:Sp)(W:WX):TS:=(Y9 (Xi (Xc (tOp (ZbH K) (tOp (rIx K) (YS 2) (tC (.int 0))) (tC (.str "name")))) (Xh (L2H.tMethH c.CI "read" (Zx K c) (WE W) (YS 0) (YT (YS 1) (YT (tOp (rIx K) (YS 2) (tC (.int 1))) (YT (tC (.str "unbound")) YZ))))) Xo)
 (ZaP K c sp W))
theorem ZdG{K:YA}{c:CA}{sp:Sp}{W:WX}{D:Ends}{σ:L2.St}{H:Hp}(h:(Xh (tIf (Xc (tOp (ZbH K) (tOp (rIx K) (YS 2) (tC (.int 0))) (tC (.str "sum")))) (tOp (rAdd K) (YS 3) (YS 4)) (tCB Ze3 (YT (tOp Zl4 (YS 3) (YS 4)) YZ)))) D σ H):Zb_ K c sp W D σ H:=h
theorem ZdH{K:YA}{c:CA}{sp:Sp}{W:WX}{D:Ends}{σ:L2.St}{H:Hp}(h:(Y9 (Xk (L2H.tMethH c.CI "value" sp (WE W) (YS 0) (YT (YS 1) (YT (tOp (rIx K) (YS 2) (tC (.int 2))) YZ))) (Y4 4))
 (Zca K c sp W)) D σ H):ZaK K c sp W D σ H:=h
theorem ZdI{K:YA}{c:CA}{sp:Sp}{W:WX}{D:Ends}{σ:L2.St}{H:Hp}(h:(Y9 (Xk (L2H.tMethH c.CI "value" sp (WE W) (YS 0) (YT (YS 1) (YT (tOp (rIx K) (YS 2) (tC (.int 1))) YZ))) (Y4 3))
 (ZaK K c sp W)) D σ H):ZaL K c sp W D σ H:=h
theorem ZdJ{K:YA}{c:CA}{sp:Sp}{W:WX}{D:Ends}{σ:L2.St}{H:Hp}(h:(Xh (L2H.tMethH c.CI "read" (Zx K c) (WE W) (YS 0) (YT (tOp (rIx K) (YS 5) (tC (.int 1))) (YT (tOp (rIx K) (YS 2) (tC (.int 2))) (YT (tC (.str "missing")) YZ))))) D σ H):ZaM K c sp W D σ H:=h
theorem ZdK{K:YA}{c:CA}{sp:Sp}{W:WX}{D:Ends}{σ:L2.St}{H:Hp}(h:(Y9 (Xi (tOr (tB (Xm (ZF K) [] E0 (YT (YS 5) YZ))) (Xc (tOp (Zie K) (tOp (rIx K) (YS 5) (tC (.int 0))) (tC (.str "module"))))) (Xn (L2H.tMethH c.CI "refuse" (ZS K c) (WE W) (YS 0) (YT (tC (.str "kind")) YZ))) Xo)
 (ZaM K c sp W)) D σ H):ZaN K c sp W D σ H:=h
theorem ZdL{K:YA}{c:CA}{sp:Sp}{W:WX}{D:Ends}{σ:L2.St}{H:Hp}(h:(Y9 (Xk (L2H.tMethH c.CI "read" (Zx K c) (WE W) (YS 0) (YT (YS 1) (YT (tOp (rIx K) (YS 2) (tC (.int 1))) (YT (tC (.str "unbound")) YZ)))) (Y4 5))
 (ZaN K c sp W)) D σ H):ZaO K c sp W D σ H:=h
theorem ZdM{K:YA}{c:CA}{sp:Sp}{W:WX}{D:Ends}{σ:L2.St}{H:Hp}(h:(Y9 (Xi (Xc (tOp (ZbH K) (tOp (rIx K) (YS 2) (tC (.int 0))) (tC (.str "of")))) (ZaO K c sp W) Xo)
 (ZaL K c sp W)) D σ H):ZaP K c sp W D σ H:=h
theorem ZdN{K:YA}{c:CA}{sp:Sp}{W:WX}{D:Ends}{σ:L2.St}{H:Hp}(h:(Y9 (Xi (Xc (tOp (ZbH K) (tOp (rIx K) (YS 2) (tC (.int 0))) (tC (.str "name")))) (Xh (L2H.tMethH c.CI "read" (Zx K c) (WE W) (YS 0) (YT (YS 1) (YT (tOp (rIx K) (YS 2) (tC (.int 1))) (YT (tC (.str "unbound")) YZ))))) Xo)
 (ZaP K c sp W)) D σ H):ZdF K c sp W D σ H:=h
local macro_rules | `(tactic| row_readAll cu) => `(tactic| first | with_reducible refine ZdG ?_ | with_reducible refine ZdH ?_ | with_reducible refine ZdI ?_ | with_reducible refine ZdJ ?_ | with_reducible refine ZdK ?_ | with_reducible refine ZdL ?_ | with_reducible refine ZdM ?_ | with_reducible refine ZdN ?_)
theorem Im.blk{K:YA}{H:Hp}{v:V}{s:Stm}{k:Nat}{b:List Stm}(h:Im K H v s.d)(e:s.blocks[k]? = some b):∃ a xs y,v = .ref a∧SqT K H a xs∧xs[2 + k]? = some y∧Im K H y (.tuple (blkD b)):=by
 obtain⟨a,xs,rfl,hs,hv⟩:=h.stm
 cases s <;> simp only[Stm.vs]at hv <;> simp only[Stm.blocks]at e
 case fn=>obtain⟨v2,rfl,h2⟩:=hv
          match k,e with
          | 0,e=>cases e; exact⟨a,_,_,rfl,hs,rfl,h2⟩
 case ite=>obtain⟨v1,v2,v3,rfl,h1,h2,h3⟩:=hv
           match k,e with
           | 0,e=>cases e; exact⟨a,_,_,rfl,hs,rfl,h2⟩
           | 1,e=>cases e; exact⟨a,_,_,rfl,hs,rfl,h3⟩
 case tri=>obtain⟨v2,v3,rfl,h2,h3⟩:=hv
           match k,e with
           | 0,e=>cases e; exact⟨a,_,_,rfl,hs,rfl,h2⟩
           | 1,e=>cases e; exact⟨a,_,_,rfl,hs,rfl,h3⟩
 all_goals simp at e
theorem Im.row{K:YA}{H:Hp}{v:V}{b:List Stm}{i:Nat}{s:Stm}(h:Im K H v (.tuple (blkD b)))(e:b[i]? = some s):∃ a xs y,v = .ref a∧SqT K H a xs∧xs[i]? = some y∧Im K H y s.d:=by
 obtain⟨a,xs,rfl,hs,ha⟩:=h.of_tup
 rw[Zby]at ha
 have hl:=ha.length
 rw[Yb]at hl
 have hi:=(Yk.mp e).1
 obtain⟨d,h1,h2⟩:=ha.get (i:=i) (v:=xs[i]'(by omega)) (by simp[show i < xs.length by omega])
 rw[Ym,e]at h1
 cases h1
 exact⟨a,xs,_,rfl,hs,by simp[show i < xs.length by omega],h2⟩
def Ztj(vs:Zj5)(m:Str):Stm→Except Str Zj5
 | .imp t x=>.ok (ZbE vs (m,x) (.md t))
 | .frm t y x=>(match valA vs (t,y)with
   | none=>.error "missing"
   | some v=>.ok (ZbE vs (m,x) v))
 | .star t=>.ok (Zp_ vs m t)
 | _=>.ok vs
def Ztk:Stm→Bool
 | .imp _ _=>true
 | .frm _ _ _=>true
 | .star _=>true
 | _=>false
def ZaX(K:YA)(c:CA):Sp:=fun vs H Q E=>∃ A P w un m s v,vs=[.ref A.I,.str m,v]∧Zcv K H c A P w un∧Im K H v (Stm.d s)∧Ztk s=true∧w.vs.length < 1000∧(w.vs.map (·.1)).Nodup ∧
 (match Ztj w.vs m s with
  | .ok vs'=>∀ H',Zcv K H' c A P { w with vs:=vs' } un→Za [A.w.B] H H'→Q .non H'
  | .error k=>FE K c k un H E)
theorem Zql{t:TS}{D:Ends}{σ:L2.St}{H:Hp}:tLock t D σ H = ∃ d u,H d=some u∧Mut (some u)∧∀ od,t ⟨fun σ' H'=>H' d=some (.frz od u)∧D.nx σ' (upd H' d u),fun v H'=>H' d=some (.frz od u)∧D.rt v (upd H' d u),fun σ' H'=>H' d=some (.frz od u)∧D.bk σ' (upd H' d u),fun σ' H'=>H' d=some (.frz od u)∧D.ct σ' (upd H' d u)⟩ σ (upd H d (.frz od u)):=rfl
end M
namespace M
open PySem L2
structure Zmv(ms ns:List Str)(F:Fb):Prop where
 blk:∀ m b,F m=some b→m∈ms∧wfL b∧(∃ ms',overL ms' ns b)∧depL b ≤ 4∧cntL b ≤ 60
 okm:∀ x∈ms,okN x
 okn:∀ x∈ns,okN x
 few:ms.length * ns.length < 64
 fewm:ms.length < 64
def ZqV(F:Fb):Vl→Prop
 | .int _=>True
 | .md m=>∃ b,F m=some b
 | .fn m p=>∃ b0 b,F m=some b0∧Zp9 b0 p=some b
structure ZgG(ms ns:List Str)(F:Fb)(vs:Zj5):Prop where
 all:∀ p∈vs,p.1.1∈ms∧p.1.2∈ns∧ZqV F p.2
 nd:(vs.map (·.1)).Nodup
theorem Zmw{κ α : Type} [DecidableEq κ] {l:List (κ×α)} {k : κ} {v : α} {p : κ×α} (h:p∈ZbE l k v):p=(k,v)∨p∈l:=by
 unfold ZbE at h
 split at h
 ·obtain⟨q,hq,e⟩:=Yq.mp h
  by_cases z:q.1=k
  ·rw[if_pos z]at e
   left
   rw[← e,z]
  ·rw[if_neg z]at e
   right
   rw[← e]
   exact hq
 ·rcases Yh.mp h with h | h
  ·exact .inr h
  ·left; simpa using h
section
variable {ms ns:List Str} {F:Fb} {vs:Zj5}
theorem ZgG.put(g:ZgG ms ns F vs){m n:Str}{x:Vl}(hm:m∈ms)(hn:n∈ns)(hx:ZqV F x):ZgG ms ns F (ZbE vs (m,n) x):=by
 refine⟨fun p hp=>?_,Zk4 g.nd⟩
 rcases Zmw hp with rfl | hp
 ·exact⟨hm,hn,hx⟩
 ·exact g.all p hp
theorem ZgG.val(g:ZgG ms ns F vs){k:Zlx}{x:Vl}(h:valA vs k=some x):ZqV F x:=(g.all _ (Zaw h)).2.2
theorem ZiJ{m t:Str}(hm:m∈ms):∀ (ks:List Zlx) (vs:Zj5),(∀ k∈ks,k.2∈ns)→ZgG ms ns F vs→ZgG ms ns F (Zmt m t ks vs)
 | [],vs,_,g=>g
 | k :: r,vs,h,g=>by
   rw[M.Zmt]
   refine ZiJ hm r _ (fun z hz=>h z (Yf _ hz)) ?_
   split
   ·cases e:valA vs k with
    | none=>exact g
    | some x=>exact g.put hm (h k Yg) (g.val e)
   ·exact g
theorem ZgG.star(g:ZgG ms ns F vs){m t:Str}(hm:m∈ms):ZgG ms ns F (Zp_ vs m t) :=
 ZiJ hm _ _ (fun k hk=>by obtain⟨p,hp,rfl⟩:=Yq.mp hk; exact(g.all p hp).2.1) g
end
structure GoodW(ms ns:List Str)(F:Fb)(w:Wd):Prop where
 v:ZgG ms ns F w.vs
 st:∀ p∈w.st,p.1∈ms
 snd:(w.st.map (·.1)).Nodup
 sh:∀ x∈w.shown,ZqV F x
 ev:∀ e∈w.ev,e.2∈ms∧e.1∈(["half", "again", "begin", "end", "fail"]:List Str)
def phi(w:Wd):Nat:=w.shown.length + w.ev.length + 200 * w.left
def Rs.w:Rs→Wd
 | .ok w=>w
 | .err _ _ w=>w
 | .stop _ w=>w
def Zqm:List Str:=["absent", "kind", "missing", "raised", "unbound"]
def Rs.k:Rs→Prop
 | .err k _ _=>k∈Zqm
 | _=>True
structure Zne(ms ns:List Str)(F:Fb)(w:Wd)(n:Nat)(r:Rs):Prop where
 good:GoodW ms ns F r.w
 ph:phi r.w ≤ phi w + n
 le:r.w.left ≤ w.left
 kd:r.k
section
variable {ms ns:List Str} {F:Fb}
theorem Zne.mono{w:Wd}{a b:Nat}{r:Rs}(p:Zne ms ns F w a r)(h:a ≤ b):Zne ms ns F w b r:=⟨p.good,by have:=p.ph; omega,p.le,p.kd⟩
theorem Zne.step{w w':Wd}{a b:Nat}{r:Rs}(p:Zne ms ns F w a (.ok w'))(q:Zne ms ns F w' b r):Zne ms ns F w (a + b) r:=⟨q.good,by have:=p.ph; have:=q.ph; simp only[Rs.w]at *; omega,by have:=p.le; have:=q.le; simp only[Rs.w]at *; omega,q.kd⟩
end
def isFn:Stm→Bool
 | .fn _ _=>true
 | _=>false
def ZqW:List Stm→Pth→Bool
 | _,[]=>false
 | _,[_]=>false
 | b,i :: k :: p=>match b[i]? with
   | some s=>isFn s || (match s.blocks[k]? with
     | some b'=>ZqW b' p
     | none=>false)
   | none=>false
def Zmx:List Stm→Pth→Option Stm
 | _,[]=>none
 | b,[i]=>b[i]?
 | b,i :: k :: p=>match b[i]? with
   | some s=>(match s.blocks[k]? with
     | some b'=>Zmx b' p
     | none=>none)
   | none=>none
def ldT:Stm→Option Str
 | .imp t _=>some t
 | .frm t _ _=>some t
 | .star t=>some t
 | _=>none
def isCall:Stm→Bool
 | .call _=>true
 | _=>false
def Ztl(s:Stm)(k:Str):Prop :=
 (k = "stopped" ∧ ((ldT s).isSome=true∨isCall s=true))∨(k = "absent" ∧ (ldT s).isSome=true)∨(k = "raised" ∧ s = .raise) ∨
 (k = "missing" ∧ match s with | .frm _ _ _=>True | .set _ _=>True | .shw _=>True | .call _=>True | .ite _ _ _=>True | _=>False) ∨
 (k = "kind" ∧ match s with | .set _ _=>True | .shw _=>True | .call _=>True | .ite _ _ _=>True | _=>False) ∨
 (k = "unbound" ∧ match s with | .set _ _=>True | .shw _=>True | .call _=>True | .ite _ _ _=>True | .del _=>True | _=>False)
inductive TrC (F:Fb) (k:Str):Str→Bool→List Plc→Prop
 | last {m:Str} {f:Bool} {b0:List Stm} {p:Pth} {s:Stm}:F m=some b0→Zmx b0 p=some s→ZqW b0 p=f→Ztl s k→TrC F k m f [(m,p)]
 | load {m m':Str} {f:Bool} {b0:List Stm} {p:Pth} {s:Stm} {t:List Plc}:F m=some b0→Zmx b0 p=some s→ZqW b0 p=f→ldT s=some m'→TrC F k m' false t→TrC F k m f ((m,p) :: t)
 | call {m m':Str} {f:Bool} {b0:List Stm} {p:Pth} {s:Stm} {t:List Plc}:F m=some b0→Zmx b0 p=some s→ZqW b0 p=f→isCall s=true→TrC F k m' true t→TrC F k m f ((m,p) :: t)
section
variable {F:Fb}
def TrE(F:Fb)(u:List Plc)(m:Str)(f:Bool)(w:Wd):Rs→Prop
 | .ok w'=>w'.left ≤ w.left
 | .err k t w'=>w'.left ≤ w.left∧∃ t1,t=u++t1∧TrC F k m f t1∧t1.length + w'.left ≤ 1 + w.left
 | .stop t w'=>w'.left ≤ w.left∧∃ t1,t=u++t1∧TrC F "stopped" m f t1∧t1.length + w'.left ≤ 1 + w.left
theorem TrE.le{u:List Plc}{m:Str}{f:Bool}{w w0:Wd}{r:Rs}(h:TrE F u m f w r)(l:w.left ≤ w0.left):TrE F u m f w0 r:=by
 cases r with
 | ok w'=>exact Nat.le_trans h l
 | err k t w'=>obtain⟨h1,t1,h2,h3,h4⟩:=h; exact⟨Nat.le_trans h1 l,t1,h2,h3,by omega⟩
 | stop t w'=>obtain⟨h1,t1,h2,h3,h4⟩:=h; exact⟨Nat.le_trans h1 l,t1,h2,h3,by omega⟩
end
def rn(w:Wd)(m:Str):Prop:=valA w.st m=some ("running" : Str)
instance (w:Wd) (m:Str):Decidable (rn w m):=inferInstanceAs (Decidable (_=_))
def Zob(w:Wd):Rs→Prop
 | .ok w'=>∀ x,rn w' x↔rn w x
 | .err _ _ w'=>∀ x,rn w' x↔rn w x
 | .stop _ _=>True
theorem Zob.trans{w w':Wd}{r:Rs}(h:∀ x,rn w' x↔rn w x)(s:Zob w' r):Zob w r:=by
 cases r with
 | ok v=>exact fun x=>(s x).trans (h x)
 | err k t v=>exact fun x=>(s x).trans (h x)
 | stop t v=>trivial
section
variable {ms ns:List Str} {F:Fb} {D:Nat}
end
end M
namespace M
open PySem L2 L2H SlX
end M
namespace M
open PySem L2 L2H
def Sm(A A':IA)(H:Hp):Prop:=A' = { A with w:={ A.w with B:=A'.w.B } }∧(A'.w.B=A.w.B∨H A'.w.B=none)
theorem Sm.refl(A:IA)(H:Hp):Sm A A H:=⟨rfl,.inl rfl⟩
theorem Sm.fx{A A':IA}{H:Hp}(s:Sm A A' H):∀ x∈A'.fx,x∈A.fx∨H x=none:=by
 obtain⟨e,hB⟩:=s
 intro x hx
 rw[e]at hx
 simp only[IA.fx,Yn,Ya,or_false]at hx ⊢
 rcases hx with h | h | h | h | h | h
 ·exact .inl (.inl h)
 ·exact .inl (.inr (.inl h))
 ·rcases hB with z | z
  ·rw[z]at h; exact .inl (.inr (.inr (.inl h)))
  ·rw[h]; exact .inr z
 ·exact .inl (.inr (.inr (.inr (.inl h))))
 ·exact .inl (.inr (.inr (.inr (.inr (.inl h)))))
 ·exact .inl (.inr (.inr (.inr (.inr (.inr h)))))
theorem Sm.trans{A A1 A2:IA}{H H1:Hp}{S:List YD}(s:Sm A A1 H)(k:Za S H H1)(t:Sm A1 A2 H1):Sm A A2 H:=by
 obtain⟨e,hB⟩:=s
 obtain⟨e2,hB2⟩:=t
 refine⟨by rw[e2,e],?_⟩
 rcases hB2 with z | z
 ·rw[z]; exact hB
 ·exact .inr (k.free z)
theorem Za.sm{A A1:IA}{H H1 H2:Hp}(k:Za A.fx H H1)(s:Sm A A1 H)(k2:Za A1.fx H1 H2):Za A.fx H H2:=k.step k2 s.fx
def ZkG(K:YA)(c:CA)(A:IA)(P:Prg)(H:Hp)(ko ke:List Plc→Prop)(Q:VK)(E:XK):Rs→Prop
 | .ok w'=>∀ A' H' un',Zcv K H' c A' P w' un'→ko un'→Sm A A' H→Za A.fx H H'→Q .non H'
 | .err k t w'=>∀ A' H' un' d pv,Zcv K H' c A' P w' un'→ke un'→Sm A A' H→Za A.fx H H'→H d=none→H' d=some (.xd [("places",pv),("kind",.str k)])→Im K H' pv (.tuple (t.map Zn_))→E (.ref c.CF) (some d) H'
 | .stop t w'=>∀ A' H' un' d pv,Zcv K H' c A' P w' un'→ke un'→Sm A A' H→Za A.fx H H'→H d=none→H' d=some (.xd [("places",pv)])→Im K H' pv (.tuple (t.map Zn_))→E (.ref c.CS) (some d) H'
section
variable {K:YA} {c:CA} {A A1:IA} {P:Prg} {H H1:Hp} {ko ke ko' ke':List Plc→Prop} {Q:VK} {E:XK} {r:Rs}
theorem ZkG.at(o:ZkG K c A P H ko ke Q E r)(s:Sm A A1 H)(k:Za A.fx H H1):ZkG K c A1 P H1 ko ke Q E r:=by
 cases r with
 | ok w'=>exact fun A' H' un' x h s' k'=>o A' H' un' x h (s.trans k s') (k.sm s k')
 | err kk t w'=>exact fun A' H' un' d pv x h s' k' fd hd i=>o A' H' un' d pv x h (s.trans k s') (k.sm s k') (k.free fd) hd i
 | stop t w'=>exact fun A' H' un' d pv x h s' k' fd hd i=>o A' H' un' d pv x h (s.trans k s') (k.sm s k') (k.free fd) hd i
theorem ZkG.k0(o:ZkG K c A P H ko ke Q E r)(k:Za [] H H1):ZkG K c A P H1 ko ke Q E r:=o.at (Sm.refl A H) k.nil
theorem ZkG.un(o:ZkG K c A P H ko ke Q E r)(h1:∀ u,ko' u→ko u)(h2:∀ u,ke' u→ke u):ZkG K c A P H ko' ke' Q E r:=by
 cases r with
 | ok w'=>exact fun A' H' un' x h s' k'=>o A' H' un' x (h1 _ h) s' k'
 | err kk t w'=>exact fun A' H' un' d pv x h s' k' fd hd i=>o A' H' un' d pv x (h2 _ h) s' k' fd hd i
 | stop t w'=>exact fun A' H' un' d pv x h s' k' fd hd i=>o A' H' un' d pv x (h2 _ h) s' k' fd hd i
theorem ZkG.fe{k:Str}{t un:List Plc}{w:Wd}(o:ZkG K c A P H ko ke Q E (.err k t w))(x:Zcv K H c A P w un)(h:ke un):FE K c k t H E :=
 fun d pv H' k' fd hd i=>o A H' un d pv (x.k0 k') h (Sm.refl A H) k'.nil fd hd i
theorem ZkG.se{t un:List Plc}{w:Wd}(o:ZkG K c A P H ko ke Q E (.stop t w))(x:Zcv K H c A P w un)(h:ke un):SE K c t H E :=
 fun d pv H' k' fd hd i=>o A H' un d pv (x.k0 k') h (Sm.refl A H) k'.nil fd hd i
end
structure Pre(P:Prg)(w:Wd)(k:Nat)(l:Nat):Prop where
 ex:∃ ms ns,Zmv ms ns (valA P)∧GoodW ms ns (valA P) w
 ph:phi w + 3 * k ≤ 20000
 un:l + w.left ≤ 60
theorem ZgH{α : Type} [DecidableEq α]:∀ {l m:List α},l.Nodup→(∀ x∈l,x∈m)→l.length ≤ m.length
 | [],m,_,_=>YP _
 | x :: l,m,nd,h=>by
   rw[List.nodup_cons]at nd
   have ih:=ZgH (l:=l) (m:=m.erase x) nd.2 fun y hy=>(List.mem_erase_of_ne (fun z=>nd.1 (by rw[← z]; exact hy))).mpr (h y (Yf _ hy))
   have e:=List.length_erase_of_mem (h x Yg)
   have : 0 < m.length:=List.length_pos_of_mem (h x Yg)
   simp only[Yd]
   omega
theorem pairs_len(ns:List Str):∀ ms:List Str,(ms.flatMap fun a=>ns.map fun b=>(a,b)).length=ms.length * ns.length
 | []=>by simp
 | a :: r=>by
   rw[List.flatMap_cons,Yc,Yb,pairs_len ns r,Yd,Nat.succ_mul]
   omega
theorem GoodW.few{ms ns:List Str}{F:Fb}{w:Wd}(gf:Zmv ms ns F)(g:GoodW ms ns F w):w.vs.length < 64:=by
 have h:=ZgH (m:=ms.flatMap fun a=>ns.map fun b=>(a,b)) g.v.nd fun k hk=>by
  obtain⟨p,hp,rfl⟩:=Yq.mp hk
  obtain⟨h1,h2,_⟩:=g.v.all p hp
  exact List.mem_flatMap.mpr ⟨p.1.1,h1,Yq.mpr ⟨p.1.2,h2,rfl⟩⟩
 have e:=pairs_len ns ms
 rw[Yb,e]at h
 exact Nat.lt_of_le_of_lt h gf.few
theorem Pre.sz{P:Prg}{w:Wd}{k l:Nat}(p:Pre P w k l):w.vs.length < 64∧w.ev.length ≤ 20000∧w.shown.length ≤ 20000∧(w.vs.map (·.1)).Nodup∧w.st.length ≤ 1000:=by
 obtain⟨ms,ns,gf,gw⟩:=p.ex
 have h:=p.ph
 unfold phi at h
 refine⟨gw.few gf,by omega,by omega,gw.v.nd,?_⟩
 have:=ZgH gw.snd fun k hk=>by
  obtain⟨q,hq,rfl⟩:=Yq.mp hk
  exact gw.st q hq
 rw[Yb]at this
 have:=gf.fewm
 omega
theorem ImAll.split{K:YA}{H:Hp}:∀ {ds es:List PyData} {l:List V},ImAll K H l (ds++es)→∃ l1 l2,l=l1++l2∧ImAll K H l1 ds∧ImAll K H l2 es
 | [],es,l,h=>⟨[],l,rfl,.nil,h⟩
 | d :: ds,es,l,h=>by
   obtain⟨v,r,rfl,h1,h2⟩:=ImAll.of_cons (show ImAll K H l (d :: (ds++es))from h)
   obtain⟨l1,l2,rfl,h3,h4⟩:=ImAll.split h2
   exact⟨v :: l1,l2,rfl,.cons h1 h3,h4⟩
theorem Pre.step{P:Prg}{w w1:Wd}{a b l:Nat}(p:Pre P w (a + b) l){ms ns:List Str}(gf:Zmv ms ns (valA P))(q:Zne ms ns (valA P) w (3 * a) (.ok w1)):Pre P w1 b l :=
 ⟨⟨ms,ns,gf,q.good⟩,by have:=p.ph; have:=q.ph; simp only[Rs.w]at *; omega,by have:=p.un; have:=q.le; simp only[Rs.w]at *; omega⟩
end M
namespace M
open PySem PySem.Spec PyProof.Rows L2
def rListD:List V→Hp→VK→Prop:=fun xs H Q=>∃ (a:YD) (kvs:List (Key×V)),xs=[.ref a]∧Rd H a (.dK kvs)∧∀ p H',H p=none→Za [] H H'→H' p=some (.lst (kvs.map fun kv=>kV kv.1))→Q (.ref p) H'
theorem Zh1{X:Cx}(hc:X.calm=true):CallR X (.type "list") rListD:=by
 intro pins s σ H xs us Q I r h
 obtain⟨a,kvs,e,hd,q⟩:=h
 exact call_listD hc pins s σ H xs us Q I r ⟨a,kvs,e,hd,fun p hp=>q p _ hp (Za.new hp) Y8⟩
def ZfF:List V→Hp→VK→Prop:=fun xs H Q=>∃ (a:YD) (kvs:List (Key×V)),xs=[.ref a]∧Rd H a (.dK kvs)∧∀ p H',H p=none→Za [] H H'→H' p=some (.dK kvs)→Q (.ref p) H'
theorem ZdO{X:Cx}(hc:X.calm=true):CallR X (.type "dict") ZfF:=by
 intro pins s σ H xs us Q I r h
 obtain⟨a,kvs,e,hd,q⟩:=h
 exact call_dictD pins s σ H xs us Q I r ⟨a,kvs,e,hd,fun p hp=>q p _ hp (Za.new hp) Y8⟩
def Zqn(K:YA):R2:=fun x y H Q=>∃ a b ks ls,x = .ref a∧y = .ref b∧H a=some (.dK ks)∧H b=some (.dK ls)∧ks.length=ls.length∧(∀ p∈ks,∃ u d,valV ls p.1=some u∧Dp K H p.2 d∧Dp K H u d∧SeqAt.shaped d=true∧PyData.eqv d d=true)∧Q (.bl true) H
theorem Zoc{X:Cx}(hu:X.A.units + 80 < cLine):OpR X (compareOp .Eq) (Zqn X.K):=by
 intro pins s σ H x y v u Q I rx ry h
 obtain⟨a,b,ks,ls,rfl,rfl,ha,hb,hl,hp,q⟩:=h
 cases (show v=Value.ref a from rx)
 cases (show u=Value.ref b from ry)
 obtain⟨_,ya,va,ra,da⟩:=(show ObjOk X.prog X.w H s.heap a (.dK ks)from I.hok a _ ha)
 obtain⟨_,yb,vb,rb,db⟩:=(show ObjOk X.prog X.w H s.heap b (.dK ls)from I.hok b _ hb)
 refine PySem.W.rcP_dicts (knd:=mixKind X.prog X.w) (r:=true) ya yb da db (by omega) (fun _=>hits_run (F:=fun x y=>∃ d,Dp X.K H x d∧Dp X.K H y d∧SeqAt.shaped d=true∧PyData.eqv d d=true) (fun x y v u h rx ry=>?_) rb ra (fun p hm=>?_)) _ _ ?_
 ·obtain⟨d,h1,h2,h3,h4⟩:=h
  obtain⟨as,r1⟩:=Dp.reads I d x v h1 rx
  obtain⟨bs,r2⟩:=Dp.reads I d y u h2 ry
  have k:=PySem.W.keq_at (A:=X.A) r1 r2 h3 h3 (by show X.A.units + 1 + 64 < cLine; omega)
  rw[h4]at k
  exact k.eqP
 ·obtain⟨u,d,e,h1,h2,h3,h4⟩:=hp p hm
  exact⟨u,e,d,h1,h2,h3,h4⟩
 ·have e:va.length=vb.length:=by rw[← ra.length,← rb.length]; exact hl
  rw[show(va.length == vb.length && true)=true from by rw[e]; simp]
  exact⟨.bl true,H,I,rfl,q⟩
def ZqX(K:YA):R2:=fun x y H Q=>ZbH K x y H Q∨Zqn K x y H Q
theorem ZlB{X:Cx}(hu:X.A.units + 80 < cLine):OpR X (compareOp .Eq) (ZqX X.K):=OpR.or (ZaC (by omega)) (Zoc hu)
end M
namespace M
open PySem PySem.Spec PyProof.Rows L2 SlX
section
variable {X:Cx} {pins:List (YD×Obj)} {σ:L2.St} {H:Hp} {s:YH}
end
structure EqO(P:YE)(w:YF)(K:YA)(mg:Str→Option YG)(base:Heap)(k:Nat)(C:YD)(sp:Sp):Prop where
 ex:∃ g,PySem.W.findIn K (.ref C) "__eq__" = some (some (.ref g))∧PySem.W.isFn K (.ref g)=true∧FnR P w K mg base CX0 k g sp
theorem EqO.op{X:Cx}{k j:Nat}{C:YD}{sp:Sp}(c:EqO X.prog X.w X.K X.mg X.base k C sp)(hr:Room j X.A)(hk:k ≤ j):OpR X (compareOp .Eq) (rOwn X.K C sp E0):=by
 obtain⟨g,h1,h2,F⟩:=c.ex
 exact op_own (op:=.Eq) (fun _ _=>rfl) h1 h2 F (hr.mono hk) C8.pass0
section
variable {X:Cx} {CX:CXT} {C g:YD} {n:Nat} {sp:Sp} {E:XK}
def Zsb(C:YD)(sp:Sp)(E:XK):R2:=fun x y H Q=>∃ a dx vs b dy ws,x = .ref a∧y = .ref b∧Slt H a C dx vs∧Slt H b C dy ws∧sp [x,y] H Q E
theorem Zqo(hc:PySem.W.selfFirst X.K C=true)(hs:PySem.W.findIn X.K (.ref C) "__or__" = some (some (.ref g))) (hf:PySem.W.isFn X.K (.ref g)=true) (F:FnR X.prog X.w X.K X.mg X.base CX n g sp)
  (hr:Room n X.A) (hx:Passes CX X E):OpR X (binaryOp .BitOr) (Zsb C sp E):=by
 intro pins s σ H x y v u Q I rx ry h
 obtain⟨a,dx,vs,b,dy,ws,rfl,rfl,ha,hb,q⟩:=h
 cases (show v=Value.ref a from rx)
 cases (show u=Value.ref b from ry)
 obtain⟨sl,od,_,J,_⟩:=slt_inst I ha
 obtain⟨sl',od',_,J',_⟩:=slt_inst I hb
 obtain⟨m,hF⟩:=I.fr
 refine PySem.W.binop_K (op:=.BitOr) hF I.ok.mod.kin J J'.type hc hs hf ?_
 refine wpAny_mono (wpAny_call (run_fnR (us:=[.ref a,.ref b]) (vs:=[.ref a,.ref b]) F hr hx I (.cons rfl (.cons rfl .nil)) q)) (fun w s' z=>?_) fun _ _ x=>x
 obtain⟨z',H',I',rz,qz⟩:=z
 exact cmpback rz ⟨z',H',I',rz,qz⟩
structure OrO(P:YE)(w:YF)(K:YA)(mg:Str→Option YG)(base:Heap)(k:Nat)(C:YD)(sp:Sp):Prop where
 ex:∃ g,PySem.W.selfFirst K C=true∧PySem.W.findIn K (.ref C) "__or__" = some (some (.ref g))∧PySem.W.isFn K (.ref g)=true∧FnR P w K mg base CX0 k g sp
theorem OrO.op{k j:Nat}(c:OrO X.prog X.w X.K X.mg X.base k C sp)(hr:Room j X.A)(hk:k ≤ j):OpR X (binaryOp .BitOr) (Zsb C sp E0):=by
 obtain⟨g,h0,h1,h2,F⟩:=c.ex
 exact Zqo h0 h1 h2 F (hr.mono hk) C8.pass0
def ZqY(C:YD)(sp:Sp)(W:WX)(ta tb:TE):TE:=fun σ H Q=>ta σ H fun x H1=>tb σ H1 fun y H2=>∃ a dx vs,x = .ref a∧Slt H2 a C dx vs∧sp [x,y] H2 Q (WE W σ)
structure IxN(P:YE)(w:YF)(K:YA)(mg:Str→Option YG)(base:Heap)(k:Nat)(C:YD)(sp:Sp):Prop where
 ex:∃ g,PySem.W.findIn K (.ref C) "__getitem__" = some (some (.ref g))∧PySem.W.fnIn K g=true∧PySem.W.isFn K (.ref g)=true∧FnR P w K mg base (L2N.CX P w) k g sp
theorem Zqp{W:WX}{k j:Nat}{a b:Expr}{ta tb:TE}{pos:Pos}(c:IxN X.prog X.w X.K X.mg X.base k C sp)(tk:L2N.Takes X W)(hr:Room j X.A)(hk:k + 1 ≤ j)(ha:PE X a ta)(hb:PE X b tb)
  (hsl:∀ v u,subscripted b true v u=runValue (.builtin "lifetime.subscript" ⟨[v,u],[]⟩):=by intro v u; with_unfolding_all rfl):PE X (.Subscript a b pos) (ZqY C sp W ta tb):=by
 obtain⟨g,hs,hfn,hf,F⟩:=c.ex
 refine⟨fun pins s σ H Q I h=>?_⟩
 refine Subscript_ (binT ha hb I h fun v u s2 x y H2 I2 rx ry q=>?_)
 obtain⟨o,dx,vs,rfl,hsl2,q⟩:=q
 cases (show v=Value.ref o from rx)
 obtain⟨sl,od,_,J,_⟩:=slt_inst I2 hsl2
 obtain⟨m,hF⟩:=I2.fr
 refine PySem.W.sub_K hF I2.ok.mod.kin J hs hfn hf ?_ (hsl _ _)
 refine wpAny_call (codeAny_mono (F X.A.in1 X.stack s2 H2 [.ref o,u] [.ref o,y] Q (WE W σ) (hr.mono (show k + 1 ≤ j from hk)).in1 I2.env0.in1 (.cons rfl (.cons ry .nil)) q) fun r s' hq=>?_)
 cases r with
 | error e=>exact L2N.passAt tk σ _ _ _ _ _ I2 hq
 | ok fl =>
   cases fl with
   | ret u=>exact I2.after hq
   | next=>exact False.elim hq
   | brk=>exact False.elim hq
   | cont=>exact False.elim hq
theorem Zsc{P:YE}{w:YF}:StX.CXUp (L2N.CX P w):=by
 rintro outer s H s2 H2 E e s' un kp ho ⟨a,B,H',cls,d,ea,fl,hok,ub,na,os,ag,he⟩
 refine⟨a,B,H',cls,d,ea,fl,hok,⟨fun b o q n hb=>ub.keep b o (kp b o q) (un.free b o q n (by simp)) hb,fun b o q hb=>ub.slot b o (kp b o q) hb,fun b o q n=>ub.free b o (kp b o q) (un.free b o q n (by simp)),
  fun b o q hb=>ub.there b o (kp b o q) hb,fun b xs q=>ub.tups b xs (un.tups b xs q),fun b o xs q=>ub.frzs b o xs (un.frzs b o xs q),fun b ps q=>?_⟩,na,os.trans ho,ag,he⟩
 obtain⟨m1,e1⟩:=un.tbls b ps q
 obtain⟨m2,e2⟩:=ub.tbls b _ e1
 exact⟨m1++m2,by rw[e2,Array.append_assoc]⟩
theorem FunD.starX{P:YE}{w:YF}{K:YA}{mg:Str→Option YG}{base:Heap}{k:Nat}{f:YD}{fd:YC}{x qual:Str}{params:Arguments}{body:List YI}{scope:Scope}{N ps:List Str}{pv:Str}{sp:Sp}{CX:CXT}(up:StX.CXUp CX)
  (F:FunD K x qual params body scope [] [] f fd) (S:Y_ N (ps++[pv]) scope)
  (hb:∀ (kV doc pm:YG) (an:Option YD) (cdv ct:YG) (us rest:List YG),us.length=ps.length→bindArgs (PySem.W.fnOf x qual params body scope .none kV doc pm an cdv ct) ⟨us++rest,[]⟩=(newTuple rest >>= fun t=>pure (ps.zip us++[(pv,t)])))
  (hbody:∀ (cdv:YG) (A:Around) (outer:List Env) (s:YH) (H:Hp) (vs:List V) (Q:VK) (E:XK),Room k (A.deeper (envOfC qual scope s.heap.objs.size f cdv))→sp vs H Q E →
   ∃ t,PSs (cxOf CX P w K mg base N qual scope f cdv A outer s H E) body t∧t { nx:=fun _ H'=>Q .non H',rt:=Q } (start N vs) H) :
  FnR P w K mg base CX (k + 1) f (fun vs H Q E=>∃ ws rest,vs=ws++rest∧ws.length=ps.length∧rest.length ≤ YK∧∀ p,H p=Option.none→sp (ws++[V.ref p]) (upd H p (.tup rest)) Q E):=by
 obtain⟨oc,od,dV,kV,doc,pm,an,cdv,ct,osl,rfl,lk,hcd,hD,hK⟩:=F.ex
 rcases hD with⟨_,rfl⟩ | ⟨e,_⟩
 ·exact StX.fn_star lk hcd S up (hb kV doc pm an cdv ct) fun A outer s H vs Q E hr h=>hbody cdv A outer s H vs Q E hr h
 ·exact absurd rfl e
end
end M
namespace M
open PySem PySem.Calls PySem.Spec PySem.W PyProof.Rows PyProof.V L2
end M
namespace M
open PySem PySem.Spec PyProof.Rows L2
def eqB(b b':List Stm):Bool:=PyData.eqv (.tuple (blkD b)) (.tuple (blkD b'))
def ZlC(P':Prg)(x:Str×List Stm):Bool:=match valA P' x.1 with | some b=>eqB x.2 b | none=>false
def Zji(P P':Prg):Bool:=(P.length == P'.length) && P.all (ZlC P')
section
variable {X:Cx} {pins:List (YD×Obj)} {σ:L2.St} {H:Hp} {s:YH}
theorem Zmy(I:Inv X pins σ H s){A:Around}(hu:A.units + 66 < cLine){m':List (Key×V)}{P':Prg}{vb:List (Key×YG)}(rb:KV m' vb)(rm':ZbF kS (ZkE X.K H) m' P')(l':∀ x∈P',Zij x.2)
  {m:List (Key×V)} {P:Prg} {va:List (Key×YG)} (ra:KV m va) (rm:ZbF kS (ZkE X.K H) m P) (l:∀ x∈P,Zij x.2):PySem.W.KeqHitsP X.prog X.w A.in1 s vb va (P.all (ZlC P')):=by
 induction rm generalizing va with
 | nil=>cases ra; exact .nil
 | @cons k v b m P r rest ih =>
   cases ra with
   | @cons _ q _ qs h t =>
     obtain⟨key,u⟩:=q
     obtain⟨h1,h2⟩:=h
     have h1:kS k=key:=h1
     subst h1
     have t2:=ih t fun x hx=>l x (Yf _ hx)
     have lb:Zij b:=l (k,b) Yg
     have rv:=rb.val (kS k)
     rw[List.all_cons]
     rcases rm'.val Zak k with⟨e1,e2⟩ | ⟨v',b',e1,e2,r'⟩
     ·rw[e1]at rv
      rw[show ZlC P' (k,b)=false from by simp[ZlC,e2],Bool.false_and]
      exact .miss rv.none_of
     ·rw[e1]at rv
      obtain⟨y,hy,ry⟩:=rv.some_of
      rw[show ZlC P' (k,b)=eqB b b' from by simp[ZlC,e2]]
      obtain⟨as,q1⟩:=Dp.reads I _ v u r.dp h2
      obtain⟨bs,q2⟩:=Dp.reads I _ v' y r'.dp ry
      exact .hit hy (PySem.W.keq_at (A:=A) q1 q2 lb (l' (k,b') (Zaw e2)) (by show A.units + 1 + 64 < cLine; omega)).eqP t2
def Zod(K:YA):R2:=fun x y H Q=>∃ a b m m' P P',x = .ref a∧y = .ref b∧H a=some (.dK m)∧H b=some (.dK m')∧ZbF kS (ZkE K H) m P∧ZbF kS (ZkE K H) m' P'∧(∀ x∈P,Zij x.2)∧(∀ x∈P',Zij x.2)∧Q (.bl (Zji P P')) H
theorem ZlD(hu:X.A.units + 80 < cLine):OpR X (compareOp .Eq) (Zod X.K):=by
 intro pins s σ H x y v u Q I rx ry h
 obtain⟨a,b,m,m',P,P',rfl,rfl,ha,hb,rm,rm',l,l',q⟩:=h
 cases (show v=Value.ref a from rx)
 cases (show u=Value.ref b from ry)
 obtain⟨_,ya,va,ra,da⟩:=(show ObjOk X.prog X.w H s.heap a (.dK m)from I.hok a _ ha)
 obtain⟨_,yb,vb,rb,db⟩:=(show ObjOk X.prog X.w H s.heap b (.dK m')from I.hok b _ hb)
 refine PySem.W.rcP_dicts (knd:=mixKind X.prog X.w) (r:=P.all (ZlC P')) ya yb da db (by omega) (fun _=>Zmy I (A:=X.A) (by omega) rb rm' l' ra rm l) _ _ ?_
 have e1:va.length=P.length:=by rw[← ra.length]; exact rm.length
 have e2:vb.length=P'.length:=by rw[← rb.length]; exact rm'.length
 rw[e1,e2]
 exact⟨.bl (Zji P P'),H,I,rfl,q⟩
end
theorem Zmz{b:List Stm}(l:Zij b):eqB b b=true:=SeqAt.eqv_refl _ ((Zaz _).mp l).1
theorem ZlE{P:Prg}(nd:(P.map (·.1)).Nodup)(l:∀ x∈P,Zij x.2):Zji P P=true:=by
 unfold Zji
 rw[Bool.and_eq_true,List.all_eq_true]
 refine⟨by simp,fun x hx=>?_⟩
 unfold ZlC
 rw[Zab (k:=x.1) (v:=x.2) nd hx]
 exact Zmz (l x hx)
theorem Zj7{P P':Prg}(h:P.length≠P'.length):Zji P P'=false:=by
 unfold Zji
 rw[show(P.length == P'.length)=false from by simpa using h,Bool.false_and]
theorem ZgI{P R:Prg}(h:P.Perm R)(nd:(P.map (·.1)).Nodup)(n:Str):valA P n=valA R n:=by
 have nd':(R.map (·.1)).Nodup:=(h.map (·.1)).nodup_iff.mp nd
 cases e:valA R n with
 | none =>
   have:=ZQ.mp e
   exact ZQ.mpr fun m=>this ((h.map (·.1)).mem_iff.mp m)
 | some b=>exact Zab nd (h.mem_iff.mpr (Zaw e))
theorem ZlF{P P' R R':Prg}(h:P.Perm R)(h':P'.Perm R')(nd':(P'.map (·.1)).Nodup):Zji P P'=Zji R R':=by
 unfold Zji
 rw[h.length_eq,h'.length_eq,h.all_eq]
 congr 1
 have:ZlC P'=ZlC R':=by
  funext x
  unfold ZlC
  rw[ZgI h' nd']
 rw[this]
theorem Zj8{R P:Prg}(nR:(R.map (·.1)).Nodup)(nP:(P.map (·.1)).Nodup)(h:∀ n,valA R n=valA P n):R.Perm P:=by
 have nd0:∀ {L:Prg},(L.map (·.1)).Nodup→L.Nodup:=fun {L} nd=>List.Pairwise.of_map (R:=(·≠·)) (S:=(·≠·)) (fun p:Str×List Stm=>p.1) (fun a b h e=>h (by rw[e])) nd
 refine(List.perm_ext_iff_of_nodup (nd0 nR) (nd0 nP)).mpr fun x=>⟨fun hx=>?_,fun hx=>?_⟩
 ·have:=Zab (k:=x.1) (v:=x.2) nR hx
  rw[h]at this
  exact Zaw this
 ·have:=Zab (k:=x.1) (v:=x.2) nP hx
  rw[← h]at this
  exact Zaw this
end M
namespace M
open PySem L2 L2H SlX
structure Ztu(K:YA)(C:YD)(p1 p2 p3 p4 p5:YD):Prop where
 c:SCls K C
 s1:Slot1 K C "own_ending" p1 0
 s2:Slot1 K C "own_shown" p2 2
 s3:Slot1 K C "own_events" p3 1
 s4:Slot1 K C "own_trail" p4 4
 s5:Slot1 K C "own_spaces" p5 3
def Zcw(K:YA)(C:YD):Sp:=fun vs H Q _=>∃ a dx e l1 l2 t d xs ys zs,vs=[.ref a,.str e,.ref l1,.ref l2,.ref t,.ref d]∧H a=some (.ins C dx [])∧H dx=some (.own a)∧dx≠a∧H l1=some (.lst xs)∧H l2=some (.lst ys)∧SqT K H t zs ∧
 ∀ s1 s2 H',Slt H' a C dx [some (.str e),some (.ref s2),some (.ref s1),some (.ref d),some (.ref t)]→SqT K H' s1 xs→SqT K H' s2 ys→H' dx=some (.xd [])→Za [a,dx] H H'→Q .non H'
end M
namespace M
open PySem L2 L2H
structure SpE where
 st:Str
 dd:YD
 vs:List (Str×Vl)
def SpR(K:YA)(H:Hp)(v:V)(e:SpE):Prop:=∃ t m2,v = .ref t∧SqT K H t [.str e.st,.ref e.dd]∧H e.dd=some (.dK m2)∧ZbF kS (fun v x=>Im K H v (Vl.d x)) m2 e.vs
structure Zjj(K:YA)(H:Hp)(d:YD)(es:List (Str×SpE)):Prop where
 ex:∃ mm,H d=some (.dK mm)∧ZbF kS (SpR K H) mm es
 nd:(d :: es.map (·.2.dd)).Nodup
theorem SpR.mono{K:YA}{H H':Hp}{S:List YD}{v:V}{e:SpE}(h:SpR K H v e)(k:Za S H H')(n:e.dd∉S):SpR K H' v e:=by
 obtain⟨t,m2,rfl,h1,h2,h3⟩:=h
 exact⟨t,m2,rfl,k.sqT h1,k.obj _ _ n h2,h3.mono fun v x i=>i.mono k⟩
theorem Zh2{κ κ' α : Type}{f : κ→κ'}{R R':V→α→Prop}{m:List (κ'×V)}{l:List (κ×α)}(h:ZbF f R m l):(∀ v p,p∈l→R v p.2→R' v p.2)→ZbF f R' m l:=by
 induction h with
 | nil=>exact fun _=>.nil
 | cons h t ih=>exact fun g=>.cons (g _ (_,_) Yg h) (ih fun v p hp r=>g v p (Yf _ hp) r)
theorem Zoe{κ κ' α : Type}{f : κ→κ'}{R:V→α→Prop}{m:List (κ'×V)}{l:List (κ×α)}(h:ZbF f R m l):∀ p∈l,∃ v,R v p.2:=by
 induction h with
 | nil=>exact fun p hp=>nomatch hp
 | cons h t ih =>
   intro p hp
   rcases Yn.mp hp with rfl | hp
   ·exact⟨_,h⟩
   ·exact ih p hp
theorem Zjj.keep{K:YA}{H H':Hp}{S:List YD}{d:YD}{es:List (Str×SpE)}(x:Zjj K H d es)(k:Za S H H')(n:∀ b∈d :: es.map (·.2.dd),b∉S):Zjj K H' d es:=by
 obtain⟨mm,h1,h2⟩:=x.ex
 refine⟨⟨mm,k.obj _ _ (n _ Yg) h1,Zh2 h2 fun v p hp r=>r.mono k (n _ (Yf _ (Yv (f:=(·.2.dd)) hp)))⟩,x.nd⟩
theorem Zjj.k0{K:YA}{H H':Hp}{d:YD}{es:List (Str×SpE)}(x:Zjj K H d es)(k:Za [] H H'):Zjj K H' d es:=x.keep k fun _ _=>Ya
theorem Zjj.isD{K:YA}{H:Hp}{d:YD}{es:List (Str×SpE)}(x:Zjj K H d es):∀ b∈d :: es.map (·.2.dd),∃ u,H b=some (.dK u):=by
 obtain⟨mm,h1,h2⟩:=x.ex
 intro b hb
 rcases Yn.mp hb with rfl | hb
 ·exact⟨_,h1⟩
 ·obtain⟨p,hp,rfl⟩:=Yq.mp hb
  obtain⟨v,t,m2,_,_,h4,_⟩:=Zoe h2 p hp
  exact⟨m2,h4⟩
def Zsd(m:Str)(vs':List (Str×Vl))(es:List (Str×SpE)):List (Str×SpE):=es.map fun p=>(p.1,if p.1=m then { p.2 with vs:=vs' } else p.2)
theorem Zj9(m:Str)(vs':List (Str×Vl)):∀ (es:List (Str×SpE)) (x:Str),valA (Zsd m vs' es) x=(valA es x).map fun e=>if x=m then { e with vs:=vs' } else e
 | [],x=>rfl
 | p :: r,x=>by
   have ih:=Zj9 m vs' r x
   unfold Zsd at ih ⊢
   rw[Yr,Zbz,Zbz,ih]
   by_cases e:p.1=x
   ·rw[if_pos e,if_pos e]
    subst e
    rfl
   ·rw[if_neg e,if_neg e]
def Zl6(vs:Zj5)(m:Str)(ks:List Zlx):List (Str×Vl):=ks.filterMap fun k=>if k.1=m then(valA vs k).map fun x=>(k.2,x)else none
section
variable {K:YA} {H H':Hp} {d:YD} {es:List (Str×SpE)}
theorem Zjj.new{m st:Str}{t dd:YD}{mm:List (Key×V)}(x:Zjj K H d es)(hm:H d=some (.dK mm))(r:ZbF kS (SpR K H) mm es)(k:Za [d] H H')(h:H' d=some (.dK (putK mm (kS m) (.ref t))))(nm:valA es m=none)(ht:SqT K H t [.str st,.ref dd])(hd:H dd=some (.dK []))(ne:dd≠d)(nn:dd∉es.map (·.2.dd)) :
  Zjj K H' d (es++[(m,⟨st,dd,[]⟩)]):=by
 have nd:=x.nd
 rw[List.nodup_cons]at nd
 have e:es++[(m,(⟨st,dd,[]⟩:SpE))]=ZbE es m ⟨st,dd,[]⟩:=(Zj6 (ZQ.mp nm)).symm
 refine⟨⟨_,h,?_⟩,?_⟩
 ·rw[e]
  have r2:ZbF kS (SpR K H') mm es:=Zh2 r fun v p hp z=>z.mono k (by
   simp only[Ye]
   exact fun z=>nd.1 (by rw[← z]; exact Yv (f:=(·.2.dd)) hp))
  exact r2.put Zak ⟨t,[],rfl,k.sqT ht,k.obj _ _ (by simpa using ne) hd,.nil⟩
 ·rw[Yl,List.nodup_cons]
  refine⟨fun z=>?_,?_⟩
  ·rcases Yh.mp z with z | z
   ·exact nd.1 z
   ·have z:d=dd:=by simpa using z
    exact ne z.symm
  ·rw[List.nodup_append]
   refine⟨nd.2,by simp,fun a ha b hb=>?_⟩
   have hb:b=dd:=by simpa using hb
   rw[hb]
   exact fun z=>nn (by rw[← z]; exact ha)
end
end M
namespace M
open PySem L2 L2H SlX
theorem ZiK(vs:Zj5)(m:Str)(ks:List Zlx)(k:Zlx):Zl6 vs m (ks++[k])=Zl6 vs m ks++(if k.1=m then((valA vs k).map fun x=>(k.2,x)).toList else[]):=by
 unfold Zl6
 rw[List.filterMap_append]
 congr 1
 by_cases e:k.1=m
 ·rw[if_pos e,List.filterMap_cons,if_pos e]
  cases valA vs k <;> rfl
 ·rw[if_neg e,List.filterMap_cons,if_neg e]
  rfl
theorem ZlG{vs:Zj5}{m n:Str}{ks:List Zlx}(h:n∈(Zl6 vs m ks).map (·.1)):(m,n)∈ks:=by
 obtain⟨p,hp,rfl⟩:=Yq.mp h
 unfold Zl6 at hp
 obtain⟨k,hk,e⟩:=List.mem_filterMap.mp hp
 split at e
 ·rename_i em
  cases ev:valA vs k with
  | none=>rw[ev]at e; cases e
  | some x =>
    rw[ev]at e
    cases e
    rw[← em]
    exact hk
 ·cases e
def Sp1(w:Wd)(pre:List Zlx)(es:List (Str×SpE)):Prop:=∀ m,match valA es m with
 | some e=>(∃ k∈pre,k.1=m)∧e.st=told w m∧e.vs=Zl6 w.vs m pre
 | none=>∀ k∈pre,k.1≠m
def Sp2(w:Wd)(es:List (Str×SpE)):Prop:=∀ m,match valA es m with
 | some e=>e.st=told w m∧e.vs=Zl6 w.vs m (Zk9 (w.vs.map (·.1)))
 | none=>told w m = "absent" ∧ Zl6 w.vs m (Zk9 (w.vs.map (·.1)))=[]
structure ZoB(K:YA)(H:Hp)(C a:YD)(e:Str)(w:Wd)(t:List Plc)(es:List (Str×SpE))(fp:List YD):Prop where
 ex:∃ dx s1 s2 s3 d,fp=[a,dx,d]∧Slt H a C dx [some (.str e),some (.ref s2),some (.ref s1),some (.ref d),some (.ref s3)]∧H dx=some (.xd [])∧Im K H (.ref s1) (.tuple (w.shown.map Vl.d))∧Im K H (.ref s2) (.tuple (w.ev.map evD))∧Im K H (.ref s3) (.tuple (t.map Zn_))∧Zjj K H d es
 sp:Sp2 w es
 un:(es.map (·.1)).Nodup
 fu:∀ m e,valA es m=some e→told w m ≠ "absent" ∨ e.vs≠[]
def Ztm(w:Wd)(pre:List Zlx)(es:List (Str×SpE))(m:Str):Prop:=∀ m',m'≠m→match valA es m' with
 | some e=>(∃ k∈pre,k.1=m')∧e.st=told w m'∧e.vs=Zl6 w.vs m' pre
 | none=>∀ k∈pre,k.1≠m'
theorem Sp1.add{w:Wd}{pre:List Zlx}{es:List (Str×SpE)}{m n:Str}(h:Ztm w pre es m){x:Vl}{e:SpE}(hv:valA es m=some e)(hx:valA w.vs (m,n)=some x)(he:e.st=told w m)(heb:e.vs=Zl6 w.vs m pre)(nn:(m,n)∉pre):Sp1 w (pre++[(m,n)]) (Zsd m (ZbE e.vs n x) es):=by
 intro m'
 rw[Zj9]
 by_cases em:m'=m
 ·subst em
  rw[hv]
  simp only[Option.map_some,if_true]
  refine⟨⟨(m',n),by simp,rfl⟩,he,?_⟩
  rw[ZiK,if_pos rfl,hx,heb]
  exact Zj6 fun z=>nn (ZlG z)
 ·have hh:=h m' em
  cases ev:valA es m' with
  | none =>
    rw[ev]at hh
    intro k hk
    rcases Yh.mp hk with hk | hk
    ·exact hh k hk
    ·rw[Ye.mp hk]; exact fun z=>em z.symm
  | some e' =>
    rw[ev]at hh
    simp only[Option.map_some,em,if_false]
    obtain⟨⟨k,hk,ek⟩,h2,h3⟩:=hh
    refine⟨⟨k,Yo _ hk,ek⟩,h2,?_⟩
    rw[ZiK,if_neg (fun z=>em z.symm),List.append_nil]
    exact h3
theorem ZkH{S:List YD}{H H2:Hp}{d:YD}{u:HO}{od:Obj}(h:H d=some u)(m:Mut (some u))(k:Za S (upd H d (.frz od u)) H2):Za S H (upd H2 d u):=by
 have ne:∀ b v,b≠d→b∉S→H b=some v→upd H2 d u b=some v:=fun b v n ns e=>by
  rw[upd_ne n]
  exact k.obj _ _ ns (by rw[upd_ne n]; exact e)
 refine⟨fun b v ns e=>?_,fun b xs e=>?_,fun b ob v e=>?_,fun b v e=>?_⟩
 ·by_cases n:b=d
  ·rw[n]at e ⊢
   rw[Y8,← h,e]
  ·exact ne b v n ns e
 ·have n:b≠d:=fun n=>by rw[n,h]at e; cases e; exact m
  rw[upd_ne n]
  exact k.tup _ _ (by rw[upd_ne n]; exact e)
 ·have n:b≠d:=fun n=>by rw[n,h]at e; cases e; exact m
  rw[upd_ne n]
  exact k.frz _ _ _ (by rw[upd_ne n]; exact e)
 ·by_cases n:b=d
  ·rw[n]; exact⟨u,Y8⟩
  ·rw[upd_ne n]
   exact k.dom b v (by rw[upd_ne n]; exact e)
theorem Zjj.unlock{K:YA}{H:Hp}{d s:YD}{u:HO}{od:Obj}{es:List (Str×SpE)}(x:Zjj K H d es)(h:H s=some (.frz od u))(m:Mut (some u)):Zjj K (upd H s u) d es:=by
 have nb:∀ b∈d :: es.map (·.2.dd),b≠s:=fun b hb z=>by
  obtain⟨v,hv⟩:=x.isD b hb
  rw[z,h]at hv; cases hv
 obtain⟨mm,h1,h2⟩:=x.ex
 refine⟨⟨mm,by rw[upd_ne (nb _ Yg)]; exact h1,Zh2 h2 fun v p hp z=>?_⟩,x.nd⟩
 obtain⟨t,m2,rfl,z1,z2,z3⟩:=z
 exact⟨t,m2,rfl,Zjh h m _ _ z1,by rw[upd_ne (nb _ (Yf _ (Yv (f:=(·.2.dd)) hp)))]; exact z2,z3.mono fun v b i=>i.monoT (Zjh h m)⟩
end M
namespace M
open PySem PySem.Spec PyProof.Rows L2 L2H SlX
def ZiL(m:List (Key×V)):List V:=m.map fun p=>kV p.1
theorem ZgJ(m:List (Key×V)):(ZiL m).length=m.length:=by simp[ZiL]
section
variable {K:YA} {σ:L2.St} {H:Hp} {Q:VK} {D:Ends} {S:List YD}
theorem Wk.keys{d:YD}{o:Obj}{m:List (Key×V)}(h:H d=some (.frz o (.dK m))):Wk S (Itk d o m) (ZiL m) H:=fun H2 k =>
 ⟨⟨k.frz _ _ _ h,by rw[ZgJ]; exact YO _⟩,fun i hi=>⟨k.frz _ _ _ h,by rw[ZgJ]at hi; exact hi⟩,fun i x H3 _ y=>by
  obtain⟨e,k',v,e1,e2⟩:=y
  refine⟨?_,e ▸ Za.refl _ _⟩
  unfold ZiL
  rw[Ym,e1,e2]
  rfl⟩
theorem ZlH{P:Prg}{m:List (Key×V)}(r:ZbF kS (ZkE K H) m P):ZiL m=(P.map (·.1)).map V.str:=by
 have e:=r.keys
 unfold ZiL
 rw[show(m.map fun p=>kV p.1)=(m.map (·.1)).map kV by rw[Yx]; rfl,e,Yx,Yx]
 rfl
theorem ZK.unlock{d s:YD}{u:HO}{od:Obj}{P:Prg}(x:ZK K H d P)(h:H s=some (.frz od u))(m:Mut (some u))(n:d≠s):ZK K (upd H s u) d P:=by
 obtain⟨mm,g,r⟩:=x
 exact⟨mm,by rw[upd_ne n]; exact g,r.mono fun v b i=>i.monoT (Zjh h m)⟩
theorem ZlI{d:YD}{m:List (Key×V)}{te:TE}{j:Nat}{tb:TS}(hte:∀ (H:Hp) (R:VK),te σ H R=R (.ref d) H)(g:H d=some (.dK m))(Pv:Hp→Nat→L2.St→Hp→Prop)
  (hK:∀ H0 i σ' H',Pv H0 i σ' H'→Za S H0 H')
  (h0:∀ H0 od,H0=upd H d (.frz od (.dK m))→H0 d=some (.frz od (.dK m))→Za [d] H H0→Pv H0 0 σ H0)
  (hs:∀ H0 od,H0 d=some (.frz od (.dK m))→Za [d] H H0→∀ (D':Ends) i x σ' H1 H2,(ZiL m)[i]? = some x→Za S H0 H2→Pv H0 i σ' H1→Za [] H1 H2→(∀ σ2 H3,Pv H0 (i + 1) σ2 H3→D'.nx σ2 H3)→tb D' (σ'.set j (some x)) H2)
  (hd:∀ H0 od,H0=upd H d (.frz od (.dK m))→Za [d] H H0→∀ σ' H',Pv H0 m.length σ' H'→H' d=some (.frz od (.dK m))→Za S H (upd H' d (.dK m))→D.nx σ' (upd H' d (.dK m))):tLock (tFor (iKeys te) (Y4 j) tb) D σ H:=by
 rw[Zql]
 refine⟨d,_,g,True.intro,fun od=>?_⟩
 generalize eH0:upd H d (.frz od (.dK m))=H0
 have kL:Za [d] H H0:=by rw[← eH0]; exact ZlA g True.intro
 have hd0:H0 d=some (.frz od (.dK m)):=by rw[← eH0]; exact Y8
 rw[Zpf,Zqg,hte]
 refine Zn9 hd0 ?_
 refine Zg6 (Wk.keys hd0) (Pv H0) (hK H0) (h0 H0 od eH0.symm hd0 kL) ?_ ?_
 ·intro i x σ' H1 H2 hx hp k
  exact hs H0 od hd0 kL _ i x σ' H1 H2 hx ((hK _ _ _ _ hp).step0 k) hp k fun σ2 H3 z=>z
 ·intro σ' H' hp
  rw[ZgJ]at hp
  have k:=hK _ _ _ _ hp
  have hd':=k.frz _ _ _ hd0
  refine⟨hd',hd H0 od eH0.symm kL σ' H' hp hd' ?_⟩
  rw[← eH0]at k
  exact ZkH g True.intro k
end
end M
namespace M
open PySem L2 L2H SlX
def ZbS(K:YA)(CW CO:YD)(E:XK):TS:=(Xk (tOp rIxD (Xg K (YS 0) "bindings") (Zfn (YT (YS 4) (YT (YS 5) YZ)))) (gSub (tOp (rIx K) (tOp rIxD (YS 3) (YS 4)) (tC (.int 1))) (YS 5) rSetD))
def ZbT(K:YA)(CW CO:YD)(E:XK):TS:=(Y9 (Xi (tB (tOp rNotInD (YS 4) (YS 3))) (Xk (Zfn (YT (Xj CW "told_status" (Zcf K CW) [] E0 (YS 0) (YT (YS 4) YZ)) (YT Zio YZ))) (gSub (YS 3) (YS 4) rSetD)) Xo)
 (ZbS K CW CO E))
def ZfG(K:YA)(CW CO:YD)(E:XK):TS:=(Y9 (tFor (iList K (tCB rSortT (YT (Xg K (YS 0) "bindings") YZ))) (gTup K 2 (gCons (Y4 4) (gCons (Y4 5) gNil))) (ZbT K CW CO E))
 (Y9 (tLock (tFor (iKeys (Xg K (YS 0) "statuses")) (Y4 4) (Xi (tAnd (tB (tOp rNotInD (YS 4) (YS 3))) (Xc (tOp (Zie K) (tOp rIxD (Xg K (YS 0) "statuses") (YS 4)) (tC (.str "absent"))))) (Xk (Zfn (YT (tOp rIxD (Xg K (YS 0) "statuses") (YS 4)) (YT Zio YZ))) (gSub (YS 3) (YS 4) rSetD)) Xo)))
 (Xh (tMake CO (Zcw K CO) [] E0 (YT (YS 1) (YT (Xg K (YS 0) "lines") (YT (Xg K (YS 0) "happened") (YT (YS 2) (YT (YS 3) YZ)))))))))
theorem ZfH{K:YA}{CW CO:YD}{E:XK}{D:Ends}{σ:L2.St}{H:Hp}(h:(Xk (tOp rIxD (Xg K (YS 0) "bindings") (Zfn (YT (YS 4) (YT (YS 5) YZ)))) (gSub (tOp (rIx K) (tOp rIxD (YS 3) (YS 4)) (tC (.int 1))) (YS 5) rSetD)) D σ H):ZbS K CW CO E D σ H:=h
theorem ZfI{K:YA}{CW CO:YD}{E:XK}{D:Ends}{σ:L2.St}{H:Hp}(h:(Y9 (Xi (tB (tOp rNotInD (YS 4) (YS 3))) (Xk (Zfn (YT (Xj CW "told_status" (Zcf K CW) [] E0 (YS 0) (YT (YS 4) YZ)) (YT Zio YZ))) (gSub (YS 3) (YS 4) rSetD)) Xo)
 (ZbS K CW CO E)) D σ H):ZbT K CW CO E D σ H:=h
theorem ZfJ{K:YA}{CW CO:YD}{E:XK}{D:Ends}{σ:L2.St}{H:Hp}(h:(Y9 (tFor (iList K (tCB rSortT (YT (Xg K (YS 0) "bindings") YZ))) (gTup K 2 (gCons (Y4 4) (gCons (Y4 5) gNil))) (ZbT K CW CO E))
 (Y9 (tLock (tFor (iKeys (Xg K (YS 0) "statuses")) (Y4 4) (Xi (tAnd (tB (tOp rNotInD (YS 4) (YS 3))) (Xc (tOp (Zie K) (tOp rIxD (Xg K (YS 0) "statuses") (YS 4)) (tC (.str "absent"))))) (Xk (Zfn (YT (tOp rIxD (Xg K (YS 0) "statuses") (YS 4)) (YT Zio YZ))) (gSub (YS 3) (YS 4) rSetD)) Xo)))
 (Xh (tMake CO (Zcw K CO) [] E0 (YT (YS 1) (YT (Xg K (YS 0) "lines") (YT (Xg K (YS 0) "happened") (YT (YS 2) (YT (YS 3) YZ))))))))) D σ H):ZfG K CW CO E D σ H:=h
local macro_rules | `(tactic| row_readAll cu) => `(tactic| first | with_reducible refine ZfH ?_ | with_reducible refine ZfI ?_ | with_reducible refine ZfJ ?_)
theorem ZoB.keep{K:YA}{H H':Hp}{C a:YD}{e:Str}{w:Wd}{t:List Plc}{es:List (Str×SpE)}{fp S:List YD}(x:ZoB K H C a e w t es fp)(k:Za S H H')(n:∀ b∈fp++es.map (·.2.dd),b∉S):ZoB K H' C a e w t es fp:=by
 obtain⟨dx,s1,s2,s3,d,rfl,h1,h2,h3,h4,h5,h6⟩:=x.ex
 have n1:a∉S:=n a (by simp)
 have n2:dx∉S:=n dx (by simp)
 refine⟨⟨dx,s1,s2,s3,d,rfl,Slt.keep (b:=.own 0) h1 k n1 n2,k.obj _ _ n2 h2,h3.mono k,h4.mono k,h5.mono k,h6.keep k fun b hb=>n b ?_⟩,x.sp,x.un,x.fu⟩
 rcases Yn.mp hb with rfl | hb
 ·simp
 ·exact Yp _ hb
theorem ZoB.k0{K:YA}{H H':Hp}{C a:YD}{e:Str}{w:Wd}{t:List Plc}{es:List (Str×SpE)}{fp:List YD}(x:ZoB K H C a e w t es fp)(k:Za [] H H'):ZoB K H' C a e w t es fp:=x.keep k fun _ _=>Ya
end M
namespace M
open PySem L2 L2H
theorem Znf{K:YA}{σ:L2.St}{H:Hp}{R:L2.St→Hp→Prop}{a:YD}{x y z:V}{i j k:Nat}(h:SqT K H a [x,y,z])(q:R (((σ.set i (some x)).set j (some y)).set k (some z)) H):gTup K 3 (gCons (Y4 i) (gCons (Y4 j) (gCons (Y4 k) gNil))) (.ref a) σ H R :=
 ⟨a,[x,y,z],rfl,h,rfl,x,[y,z],rfl,y,[z],rfl,z,[],rfl,rfl,q⟩
def ZaY(K:YA)(c:CA)(sp:Sp)(W:WX):TS:=(Y9 (Xn (tBM0 K "list" rPop (Xg K (YS 0) "under")))
 (Xn (Xj c.CW "leave" (ZeJ K c.CW) [] E0 (Xg K (YS 0) "world") (YT (YS 1) YZ))))
def ZaZ(K:YA)(c:CA)(sp:Sp)(W:WX):TS:=(Y9 (fun D σ H=>(fun W:WX=>(Xn (L2H.tMethH c.CI "go" sp (WE W) (YS 0) (YT (YS 1) (YT (Zs K YZ) (YT (tOp (ZpE c.CP (Zl K c.CP) E0) (Xg K (YS 0) "own_program") (YS 1)) YZ)))))) ((Zm5 K (.ref c.CF) (fun a cls d=>(Y9 (Xn (Xj c.CW "fail" (Zfp K c.CW) [] E0 (Xg K (YS 0) "world") (YT (YS 1) YZ)))
 (fun _ σ H=>W cls d σ H))) (fun _=>W)) D) D σ H)
 (ZaY K c sp W))
def Za0(K:YA)(c:CA)(sp:Sp)(W:WX):TS:=(Y9 (Xn (tBM K "list" rAppend (Xg K (YS 0) "under") (YT (Zfn (YT (YS 1) (YT (Zs K YZ) YZ))) YZ)))
 (ZaZ K c sp W))
def Za1(K:YA)(c:CA)(sp:Sp)(W:WX):TS:=(Y9 (Xn (Xj c.CW "enter" (ZeI K c.CW) [] E0 (Xg K (YS 0) "world") (YT (YS 1) YZ)))
 (Za0 K c sp W))
def Za2(K:YA)(c:CA)(sp:Sp)(W:WX):TS:=(Y9 (Xn (L2H.tMethH c.CI "take_block" (Zbi K c) (WE W) (YS 0) YZ))
 (Za1 K c sp W))
def Zec(K:YA)(c:CA)(sp:Sp)(W:WX):TS:=(Y9 (Xi (tB (Xj c.CW "meet" (Zfo K c.CW) [] E0 (Xg K (YS 0) "world") (YT (YS 1) YZ))) tRetN Xo)
 (Za2 K c sp W))
theorem Zed{K:YA}{c:CA}{sp:Sp}{W:WX}{D:Ends}{σ:L2.St}{H:Hp}(h:(Y9 (Xn (tBM0 K "list" rPop (Xg K (YS 0) "under")))
 (Xn (Xj c.CW "leave" (ZeJ K c.CW) [] E0 (Xg K (YS 0) "world") (YT (YS 1) YZ)))) D σ H):ZaY K c sp W D σ H:=h
theorem Zee{K:YA}{c:CA}{sp:Sp}{W:WX}{D:Ends}{σ:L2.St}{H:Hp}(h:(Y9 (fun D σ H=>(fun W:WX=>(Xn (L2H.tMethH c.CI "go" sp (WE W) (YS 0) (YT (YS 1) (YT (Zs K YZ) (YT (tOp (ZpE c.CP (Zl K c.CP) E0) (Xg K (YS 0) "own_program") (YS 1)) YZ)))))) ((Zm5 K (.ref c.CF) (fun a cls d=>(Y9 (Xn (Xj c.CW "fail" (Zfp K c.CW) [] E0 (Xg K (YS 0) "world") (YT (YS 1) YZ)))
 (fun _ σ H=>W cls d σ H))) (fun _=>W)) D) D σ H)
 (ZaY K c sp W)) D σ H):ZaZ K c sp W D σ H:=h
theorem Zef{K:YA}{c:CA}{sp:Sp}{W:WX}{D:Ends}{σ:L2.St}{H:Hp}(h:(Y9 (Xn (tBM K "list" rAppend (Xg K (YS 0) "under") (YT (Zfn (YT (YS 1) (YT (Zs K YZ) YZ))) YZ)))
 (ZaZ K c sp W)) D σ H):Za0 K c sp W D σ H:=h
theorem Zeg{K:YA}{c:CA}{sp:Sp}{W:WX}{D:Ends}{σ:L2.St}{H:Hp}(h:(Y9 (Xn (Xj c.CW "enter" (ZeI K c.CW) [] E0 (Xg K (YS 0) "world") (YT (YS 1) YZ)))
 (Za0 K c sp W)) D σ H):Za1 K c sp W D σ H:=h
theorem Zeh{K:YA}{c:CA}{sp:Sp}{W:WX}{D:Ends}{σ:L2.St}{H:Hp}(h:(Y9 (Xn (L2H.tMethH c.CI "take_block" (Zbi K c) (WE W) (YS 0) YZ))
 (Za1 K c sp W)) D σ H):Za2 K c sp W D σ H:=h
theorem Zei{K:YA}{c:CA}{sp:Sp}{W:WX}{D:Ends}{σ:L2.St}{H:Hp}(h:(Y9 (Xi (tB (Xj c.CW "meet" (Zfo K c.CW) [] E0 (Xg K (YS 0) "world") (YT (YS 1) YZ))) tRetN Xo)
 (Za2 K c sp W)) D σ H):Zec K c sp W D σ H:=h
local macro_rules | `(tactic| row_readAll cu) => `(tactic| first | with_reducible refine Zed ?_ | with_reducible refine Zee ?_ | with_reducible refine Zef ?_ | with_reducible refine Zeg ?_ | with_reducible refine Zeh ?_ | with_reducible refine Zei ?_)
theorem RE.of{K:YA}{c:CA}{un:List Plc}{H:Hp}{Q:VK}{E:XK}{r:Except Str Vl}(h1:∀ k,r = .error k→FE K c k un H E)(h2:∀ y,r = .ok y→∀ v H',Im K H' v y.d→Za [] H H'→Q v H'):RE K c un H Q E r:=by
 cases r with
 | error k=>exact h1 k rfl
 | ok y=>exact h2 y rfl
def Zej(K:YA)(c:CA)(ld:YD)(spl spc spg spa:Sp)(W:WX):TS:=(Y9 (Xn (L2H.tMethH c.CI "load" spl (WE W) (YS 0) (YT (tOp (rIx K) (YS 3) (tC (.int 1))) YZ)))
 (Xn (L2H.tMethH c.CI "bind_loaded" (ZaX K c) (WE W) (YS 0) (YT (YS 1) (YT (YS 3) YZ)))))
def Za3(K:YA)(c:CA)(ld:YD)(spl spc spg spa:Sp)(W:WX):TS:=(Xn (L2H.tMethH c.CI "bind" (Zat K c) (WE W) (YS 0) (YT (YS 1) (YT (tOp (rIx K) (YS 3) (tC (.int 1))) (YT (L2H.tMethH c.CI "value" (Zq K c 10) (WE W) (YS 0) (YT (YS 1) (YT (tOp (rIx K) (YS 3) (tC (.int 2))) YZ))) YZ)))))
def Za4(K:YA)(c:CA)(ld:YD)(spl spc spg spa:Sp)(W:WX):TS:=(Y9 (Xn (L2H.tMethH c.CI "read" (Zx K c) (WE W) (YS 0) (YT (YS 1) (YT (tOp (rIx K) (YS 3) (tC (.int 1))) (YT (tC (.str "unbound")) YZ)))))
 (ZpI (Xg K (Xg K (YS 0) "world") "bindings") (Zfn (YT (YS 1) (YT (tOp (rIx K) (YS 3) (tC (.int 1))) YZ)))))
def Za5(K:YA)(c:CA)(ld:YD)(spl spc spg spa:Sp)(W:WX):TS:=(Xn (tBM K "list" rAppend (Xg K (Xg K (YS 0) "world") "lines") (YT (L2H.tMethH c.CI "value" (Zq K c 10) (WE W) (YS 0) (YT (YS 1) (YT (tOp (rIx K) (YS 3) (tC (.int 1))) YZ))) YZ)))
def Za6(K:YA)(c:CA)(ld:YD)(spl spc spg spa:Sp)(W:WX):TS:=(Xn (L2H.tMethH c.CI "bind" (Zat K c) (WE W) (YS 0) (YT (YS 1) (YT (tOp (rIx K) (YS 3) (tC (.int 1))) (YT (Zs K (YT (tC (.str "function")) (YT (YS 1) (YT (YS 2) YZ)))) YZ)))))
def Za7(K:YA)(c:CA)(ld:YD)(spl spc spg spa:Sp)(W:WX):TS:=(Xn (L2H.tMethH c.CI "call" spc (WE W) (YS 0) (YT (L2H.tMethH c.CI "value" (Zq K c 10) (WE W) (YS 0) (YT (YS 1) (YT (tOp (rIx K) (YS 3) (tC (.int 1))) YZ))) YZ)))
def Za8(K:YA)(c:CA)(ld:YD)(spl spc spg spa:Sp)(W:WX):TS:=(Y9 (Xk (L2H.tMethH c.CI "choice" (Zb9 K c) (WE W) (YS 0) (YT (L2H.tMethH c.CI "value" (Zq K c 10) (WE W) (YS 0) (YT (YS 1) (YT (tOp (rIx K) (YS 3) (tC (.int 1))) YZ))) YZ)) (Y4 5))
 (Xn (L2H.tMethH c.CI "go" spg (WE W) (YS 0) (YT (YS 1) (YT (tOp (rAdd K) (YS 2) (Zs K (YT (YS 5) YZ))) (YT (tOp (rIx K) (YS 3) (tOp (rAdd K) (tC (.int 2)) (YS 5))) YZ))))))
def Za9(K:YA)(c:CA)(ld:YD)(spl spc spg spa:Sp)(W:WX):TS:=(Xn (L2H.tMethH c.CI "attempt" spa (WE W) (YS 0) (YT (YS 1) (YT (YS 2) (YT (YS 3) YZ)))))
def Za_(K:YA)(c:CA)(ld:YD)(spl spc spg spa:Sp)(W:WX):TS:=(Xn (L2H.tMethH c.CI "refuse" (ZS K c) (WE W) (YS 0) (YT (tC (.str "raised")) YZ)))
def Zba(K:YA)(c:CA)(ld:YD)(spl spc spg spa:Sp)(W:WX):TS:=(Xi (Xc (tOp (ZbH K) (YS 4) (tC (.str "try")))) (Za9 K c ld spl spc spg spa W) (Za_ K c ld spl spc spg spa W))
def Zbb(K:YA)(c:CA)(ld:YD)(spl spc spg spa:Sp)(W:WX):TS:=(Xi (Xc (tOp (ZbH K) (YS 4) (tC (.str "if")))) (Za8 K c ld spl spc spg spa W) (Zba K c ld spl spc spg spa W))
def Zbc(K:YA)(c:CA)(ld:YD)(spl spc spg spa:Sp)(W:WX):TS:=(Xi (Xc (tOp (ZbH K) (YS 4) (tC (.str "call")))) (Za7 K c ld spl spc spg spa W) (Zbb K c ld spl spc spg spa W))
def Zbd(K:YA)(c:CA)(ld:YD)(spl spc spg spa:Sp)(W:WX):TS:=(Xi (Xc (tOp (ZbH K) (YS 4) (tC (.str "def")))) (Za6 K c ld spl spc spg spa W) (Zbc K c ld spl spc spg spa W))
def Zbe(K:YA)(c:CA)(ld:YD)(spl spc spg spa:Sp)(W:WX):TS:=(Xi (Xc (tOp (ZbH K) (YS 4) (tC (.str "show")))) (Za5 K c ld spl spc spg spa W) (Zbd K c ld spl spc spg spa W))
def Zbf(K:YA)(c:CA)(ld:YD)(spl spc spg spa:Sp)(W:WX):TS:=(Xi (Xc (tOp (ZbH K) (YS 4) (tC (.str "del")))) (Za4 K c ld spl spc spg spa W) (Zbe K c ld spl spc spg spa W))
def Zek(K:YA)(c:CA)(ld:YD)(spl spc spg spa:Sp)(W:WX):TS:=(Xi (Xc (tOp (ZbH K) (YS 4) (tC (.str "set")))) (Za3 K c ld spl spc spg spa W) (Zbf K c ld spl spc spg spa W))
theorem Zel{K:YA}{c:CA}{ld:YD}{spl spc spg spa:Sp}{W:WX}{D:Ends}{σ:L2.St}{H:Hp}(h:(Y9 (Xn (L2H.tMethH c.CI "load" spl (WE W) (YS 0) (YT (tOp (rIx K) (YS 3) (tC (.int 1))) YZ)))
 (Xn (L2H.tMethH c.CI "bind_loaded" (ZaX K c) (WE W) (YS 0) (YT (YS 1) (YT (YS 3) YZ))))) D σ H):Zej K c ld spl spc spg spa W D σ H:=h
theorem Zem{K:YA}{c:CA}{ld:YD}{spl spc spg spa:Sp}{W:WX}{D:Ends}{σ:L2.St}{H:Hp}(h:(Xn (L2H.tMethH c.CI "bind" (Zat K c) (WE W) (YS 0) (YT (YS 1) (YT (tOp (rIx K) (YS 3) (tC (.int 1))) (YT (L2H.tMethH c.CI "value" (Zq K c 10) (WE W) (YS 0) (YT (YS 1) (YT (tOp (rIx K) (YS 3) (tC (.int 2))) YZ))) YZ))))) D σ H):Za3 K c ld spl spc spg spa W D σ H:=h
theorem Zen{K:YA}{c:CA}{ld:YD}{spl spc spg spa:Sp}{W:WX}{D:Ends}{σ:L2.St}{H:Hp}(h:(Y9 (Xn (L2H.tMethH c.CI "read" (Zx K c) (WE W) (YS 0) (YT (YS 1) (YT (tOp (rIx K) (YS 3) (tC (.int 1))) (YT (tC (.str "unbound")) YZ)))))
 (ZpI (Xg K (Xg K (YS 0) "world") "bindings") (Zfn (YT (YS 1) (YT (tOp (rIx K) (YS 3) (tC (.int 1))) YZ))))) D σ H):Za4 K c ld spl spc spg spa W D σ H:=h
theorem Zeo{K:YA}{c:CA}{ld:YD}{spl spc spg spa:Sp}{W:WX}{D:Ends}{σ:L2.St}{H:Hp}(h:(Xn (tBM K "list" rAppend (Xg K (Xg K (YS 0) "world") "lines") (YT (L2H.tMethH c.CI "value" (Zq K c 10) (WE W) (YS 0) (YT (YS 1) (YT (tOp (rIx K) (YS 3) (tC (.int 1))) YZ))) YZ))) D σ H):Za5 K c ld spl spc spg spa W D σ H:=h
theorem Zep{K:YA}{c:CA}{ld:YD}{spl spc spg spa:Sp}{W:WX}{D:Ends}{σ:L2.St}{H:Hp}(h:(Xn (L2H.tMethH c.CI "bind" (Zat K c) (WE W) (YS 0) (YT (YS 1) (YT (tOp (rIx K) (YS 3) (tC (.int 1))) (YT (Zs K (YT (tC (.str "function")) (YT (YS 1) (YT (YS 2) YZ)))) YZ))))) D σ H):Za6 K c ld spl spc spg spa W D σ H:=h
theorem Zeq{K:YA}{c:CA}{ld:YD}{spl spc spg spa:Sp}{W:WX}{D:Ends}{σ:L2.St}{H:Hp}(h:(Xn (L2H.tMethH c.CI "call" spc (WE W) (YS 0) (YT (L2H.tMethH c.CI "value" (Zq K c 10) (WE W) (YS 0) (YT (YS 1) (YT (tOp (rIx K) (YS 3) (tC (.int 1))) YZ))) YZ))) D σ H):Za7 K c ld spl spc spg spa W D σ H:=h
theorem Zer{K:YA}{c:CA}{ld:YD}{spl spc spg spa:Sp}{W:WX}{D:Ends}{σ:L2.St}{H:Hp}(h:(Y9 (Xk (L2H.tMethH c.CI "choice" (Zb9 K c) (WE W) (YS 0) (YT (L2H.tMethH c.CI "value" (Zq K c 10) (WE W) (YS 0) (YT (YS 1) (YT (tOp (rIx K) (YS 3) (tC (.int 1))) YZ))) YZ)) (Y4 5))
 (Xn (L2H.tMethH c.CI "go" spg (WE W) (YS 0) (YT (YS 1) (YT (tOp (rAdd K) (YS 2) (Zs K (YT (YS 5) YZ))) (YT (tOp (rIx K) (YS 3) (tOp (rAdd K) (tC (.int 2)) (YS 5))) YZ)))))) D σ H):Za8 K c ld spl spc spg spa W D σ H:=h
theorem Zes{K:YA}{c:CA}{ld:YD}{spl spc spg spa:Sp}{W:WX}{D:Ends}{σ:L2.St}{H:Hp}(h:(Xn (L2H.tMethH c.CI "attempt" spa (WE W) (YS 0) (YT (YS 1) (YT (YS 2) (YT (YS 3) YZ))))) D σ H):Za9 K c ld spl spc spg spa W D σ H:=h
theorem Zet{K:YA}{c:CA}{ld:YD}{spl spc spg spa:Sp}{W:WX}{D:Ends}{σ:L2.St}{H:Hp}(h:(Xn (L2H.tMethH c.CI "refuse" (ZS K c) (WE W) (YS 0) (YT (tC (.str "raised")) YZ))) D σ H):Za_ K c ld spl spc spg spa W D σ H:=h
theorem Zeu{K:YA}{c:CA}{ld:YD}{spl spc spg spa:Sp}{W:WX}{D:Ends}{σ:L2.St}{H:Hp}(h:(Xi (Xc (tOp (ZbH K) (YS 4) (tC (.str "try")))) (Za9 K c ld spl spc spg spa W) (Za_ K c ld spl spc spg spa W)) D σ H):Zba K c ld spl spc spg spa W D σ H:=h
theorem Zev{K:YA}{c:CA}{ld:YD}{spl spc spg spa:Sp}{W:WX}{D:Ends}{σ:L2.St}{H:Hp}(h:(Xi (Xc (tOp (ZbH K) (YS 4) (tC (.str "if")))) (Za8 K c ld spl spc spg spa W) (Zba K c ld spl spc spg spa W)) D σ H):Zbb K c ld spl spc spg spa W D σ H:=h
theorem Zew{K:YA}{c:CA}{ld:YD}{spl spc spg spa:Sp}{W:WX}{D:Ends}{σ:L2.St}{H:Hp}(h:(Xi (Xc (tOp (ZbH K) (YS 4) (tC (.str "call")))) (Za7 K c ld spl spc spg spa W) (Zbb K c ld spl spc spg spa W)) D σ H):Zbc K c ld spl spc spg spa W D σ H:=h
theorem Zex{K:YA}{c:CA}{ld:YD}{spl spc spg spa:Sp}{W:WX}{D:Ends}{σ:L2.St}{H:Hp}(h:(Xi (Xc (tOp (ZbH K) (YS 4) (tC (.str "def")))) (Za6 K c ld spl spc spg spa W) (Zbc K c ld spl spc spg spa W)) D σ H):Zbd K c ld spl spc spg spa W D σ H:=h
theorem Zey{K:YA}{c:CA}{ld:YD}{spl spc spg spa:Sp}{W:WX}{D:Ends}{σ:L2.St}{H:Hp}(h:(Xi (Xc (tOp (ZbH K) (YS 4) (tC (.str "show")))) (Za5 K c ld spl spc spg spa W) (Zbd K c ld spl spc spg spa W)) D σ H):Zbe K c ld spl spc spg spa W D σ H:=h
theorem Zez{K:YA}{c:CA}{ld:YD}{spl spc spg spa:Sp}{W:WX}{D:Ends}{σ:L2.St}{H:Hp}(h:(Xi (Xc (tOp (ZbH K) (YS 4) (tC (.str "del")))) (Za4 K c ld spl spc spg spa W) (Zbe K c ld spl spc spg spa W)) D σ H):Zbf K c ld spl spc spg spa W D σ H:=h
theorem ZeA{K:YA}{c:CA}{ld:YD}{spl spc spg spa:Sp}{W:WX}{D:Ends}{σ:L2.St}{H:Hp}(h:(Xi (Xc (tOp (ZbH K) (YS 4) (tC (.str "set")))) (Za3 K c ld spl spc spg spa W) (Zbf K c ld spl spc spg spa W)) D σ H):Zek K c ld spl spc spg spa W D σ H:=h
local macro_rules | `(tactic| row_readAll cu) => `(tactic| first | with_reducible refine Zel ?_ | with_reducible refine Zem ?_ | with_reducible refine Zen ?_ | with_reducible refine Zeo ?_ | with_reducible refine Zep ?_ | with_reducible refine Zeq ?_ | with_reducible refine Zer ?_ | with_reducible refine Zes ?_ | with_reducible refine Zet ?_ | with_reducible refine Zeu ?_ | with_reducible refine Zev ?_ | with_reducible refine Zew ?_ | with_reducible refine Zex ?_ | with_reducible refine Zey ?_ | with_reducible refine Zez ?_ | with_reducible refine ZeA ?_)
end M
namespace M
open PySem L2 L2H SlX
end M
namespace M
open PySem L2
theorem ZiM{P:Prg}(nd:(P.map (·.1)).Nodup)(n:Str):valA (Zt P) n=valA P n:=by
 cases e:valA P n with
 | none =>
   refine ZQ.mpr ?_
   rw[ZbR,Zcp]
   exact ZQ.mp e
 | some b =>
   refine Zab (by rw[ZbR]; exact ZeP nd) ?_
   unfold Zt
   refine Yq.mpr ⟨n,?_,by rw[e]; rfl⟩
   rw[Zcp]
   exact Yv (f:=(·.1)) (Zaw e)
theorem ZgE.good{ms ns:List Str}{P:Prg}(h:ZgE ms ns P):Zmv ms ns (valA (Zt P)):=by
 have nd:(P.map (·.1)).Nodup:=by rw[h.keys]; exact h.ndm
 have l1:=h.lm
 have l2:=h.ln
 have l3:ms.length * ns.length ≤ 4 * 3:=Nat.mul_le_mul l1 l2
 refine⟨fun m b e=>?_,h.okm,h.okn,by omega,by omega⟩
 rw[ZiM nd]at e
 have mm:=Zaw e
 have d:=h.blk _ mm
 exact⟨by rw[← h.keys]; exact Yv (f:=(·.1)) mm,d.wf,⟨_,d.over⟩,Nat.le_trans d.dep (by decide),Nat.le_trans d.cnt (by decide)⟩
theorem ZgE.has{ms ns:List Str}{P:Prg}(h:ZgE ms ns P){s:Str}(m:s∈ms):∃ b,valA (Zt P) s=some b:=by
 have nd:(P.map (·.1)).Nodup:=by rw[h.keys]; exact h.ndm
 rw[ZiM nd]
 cases e:valA P s with
 | none=>exact absurd (by rw[h.keys]; exact m) (ZQ.mp e)
 | some b=>exact⟨b,rfl⟩
section
variable {K:YA} {H:Hp} {Q:VK}
theorem ImAll.drop:∀ {vs:List V} {ds:List PyData} (n:Nat),ImAll K H vs ds→ImAll K H (vs.drop n) (ds.drop n)
 | _,_,0,h=>h
 | _,_,_ + 1,.nil=>.nil
 | _,_,n + 1,.cons _ t=>ImAll.drop n t
theorem ImAll.take:∀ {vs:List V} {ds:List PyData} (n:Nat),ImAll K H vs ds→ImAll K H (vs.take n) (ds.take n)
 | _,_,0,_=>.nil
 | _,_,_ + 1,.nil=>.nil
 | _,_,n + 1,.cons h t=>.cons h (ImAll.take n t)
end
end M
namespace M
open PySem L2 L2H SlX
theorem Zfq{C:YD}{sp:Sp}{E:XK}{ta:TE}{t:TA}{σ:L2.St}{H:Hp}{Q:VK}:tMethSl C sp E ta t σ H Q=ta σ H fun x H1=>∃ a dx vs,x = .ref a∧Slt H1 a C dx vs∧t σ H1 fun ws H2=>sp (x :: ws) H2 Q E:=rfl
section
variable {K:YA} {C:YD}
end
end M
namespace M
open PySem PySem.Spec PyProof.Rows L2 L2H SlX
def ZT(K:YA)(C:YD):Sp:=fun vs H Q _=>∃ a n P fp b,vs=[.ref a,.str n]∧ZH K H C a P fp∧valA P n=some b∧depL b ≤ 4∧(walkL [] 0 b).length ≤ 100000 ∧
 ∀ p ws H',H p=none→Za [] H H'→H' p=some (.lst ws)→ImAll K H' ws ((walkL [] 0 b).map Zgi)→Q (.ref p) H'
def Zai(K:YA)  : TS:=(Y9 (Xi (tB (tOp rNotInD (YS 1) (SlX.tSl K (YS 0) "own_blocks"))) tNever Xo)
 (Xh (Xm (Zk K 10) [] E0 (YT (tOp rIxD (SlX.tSl K (YS 0) "own_blocks") (YS 1)) (YT (Zs K YZ) YZ)))))
def ZeB:List Str:=["self", "name"]
theorem Zc6{K:YA}{C p1 p2:YD}(T:Zd9 K C p1 p2)(vs:List V)(H:Hp)(Q:VK)(E:XK)(h:ZT K C vs H Q E):Zai K { nx:=fun _ H'=>Q .non H',rt:=Q } (start ZeB vs) H:=by
 obtain⟨a,n,P,fp,b,rfl,x,e,hd,hn,q⟩:=h
 show Zai K _ [some (.ref a),some (.str n)] H
 unfold Zai
 obtain⟨dx,nl,d,rfl,h1,h2,h3,m,h4,r4⟩:=x.ex
 rcases r4.val Zak n with⟨e1,e2⟩ | ⟨v,b',e1,e2,e3⟩
 ·rw[e]at e2; cases e2
 ·rw[e]at e2
  cases e2
  row_readAll go
  refine⟨a,C,dx,p2,_,_,_,rfl,h1,T.c,T.s2,rfl,?_⟩
  refine Zg7 h4 ?_
  rw[show valV m (.inr n)=some v from e1]
  simp only[Option.isSome_some,Bool.not_true]
  row_readAll go
  refine⟨a,C,dx,p2,_,_,_,rfl,h1,T.c,T.s2,rfl,?_⟩
  refine ZhD h4 e1 ?_
  row_readAll go
  refine ZV (by simp) fun p1 H1 f1 k1 s1=>?_
  have ip:Im K H1 (.ref p1) (ZcJ []):=.tup s1 .nil
  exact⟨v,p1,b,[],rfl,e3.mono k1,ip,by omega,hn,by simp,fun p2 ws H2 f2 k2 g2 i2=>q p2 ws H2 (k1.free f2) (k1.trans k2) g2 i2⟩
end M
namespace M
open PySem PySem.Spec PyProof.Rows L2 L2H SlX GenW
def ZlJ(m:Str)(r:Pth×Stm):PyData:=.tuple [.str m,ZcJ r.1,r.2.d]
def ZkI(x:Str×List Stm):List PyData:=(walkL [] 0 x.2).map (ZlJ x.1)
def ZdP(Pg:Prg):List PyData:=Pg.flatMap ZkI
theorem Zhn{x:Str×List Stm}{r:Prg}:ZdP (x :: r)=ZkI x++ZdP r:=rfl
structure ZcL where
 tg1:Expr
 iter1:Expr
 tg2:Expr
 iter2:Expr
 ye:Expr
 yp:Pos
 p1:Pos
 p2:Pos
 p3:Pos
def ZcL.b2(c:ZcL):List YI:=[.Expr (.Yield (some c.ye) c.yp) c.p3]
def ZcL.b1(c:ZcL):List YI:=[.For c.tg2 c.iter2 c.b2 [] c.p2]
def ZcL.b0(c:ZcL):List YI:=[.For c.tg1 c.iter1 c.b1 [] c.p1]
def te2(K:YA):TE:=Xm (Zk K 10) [] E0 (YT (tOp rIxD (tSl K (YS 0) "own_blocks") (YS 1)) (YT (Zs K YZ) YZ))
structure ZmA(X:Cx)(c:ZcL):Prop where
 i1:∀ s H,PI (rb X s H) c.tg1 c.iter1 (iList X.K (tSl X.K (YS 0) "own_names"))
 g1:∀ s H,PG (rb X s H) c.tg1 (Y4 1)
 i2:∀ s H,PI (rb X s H) c.tg2 c.iter2 (iList X.K (te2 X.K))
 g2:∀ s H,PG (rb X s H) c.tg2 (gTup X.K 2 (gCons (Y4 2) (gCons (Y4 3) gNil)))
 ye:∀ s H,PE (rb X s H) c.ye (Zs X.K (YT (YS 1) (YT (YS 2) (YT (YS 3) YZ))))
 f1:∀ x,foldedSetIterable c.iter1 X.env x=pure x
 f2:∀ x,foldedSetIterable c.iter2 X.env x=pure x
 co:X.env.scope.isCoroutine=false
 ia:interactive X.env=false
def Zse:Flow→Sem PySem.Fin:=fun f=>.pure (.done (.ret (match f with | .ret v=>v | _=>.none)))
def ZqZ(env:Env):YG→Sem PySem.Fin:=fun e=>(leaving env e).wrap (fun _=>.raise e) .raise id id
def Zof(env:Env)(K:Flow→Sem PySem.Fin)(J:YG→Sem PySem.Fin):Flow→Sem PySem.Fin:=fun f=>match f with | .next=>(execs [] env).wrap K J id id | f=>K f
def ZmB(c:Code):Flow→Sem PySem.Fin:=fun f=>match f with
 | .next | .cont=>.pure (.again c)
 | .brk=>.pure (.done .next)
 | .ret v=>.pure (.done (.ret v))
def ZlK(env:Env):YG→Sem PySem.Fin:=fun e=>(do noteFrame e env; theTreesLotGoes e:Sem Unit).wrap (fun _=>.raise e) .raise id id
def ZsP(env:Env)(K:Flow→Sem PySem.Fin)(J:YG→Sem PySem.Fin)(c:Code)(p:Pos):Frame :=
 .ret (fun r=>((match r with | .ok f=>(.pure f:Sem Flow) | .error e=>.raise e).onRaise (cameBack env)).wrap K J id id) none (id false) (id []) c p []
section
variable (X:Cx) (c:ZcL)
abbrev ZcL.c1(it:YD):Code:=.forLoop c.tg1 (.ref it) c.b1 [] X.env
abbrev ZcL.c2(it:YD):Code:=.forLoop c.tg2 (.ref it) c.b2 [] X.env
def ZcL.fs1(p:Pos):List Frame:=[ZsP X.env (Zof X.env Zse (ZqZ X.env)) (ZqZ X.env) (.func c.b0 X.env) p]
def ZcL.fs2(it1:YD)(p q:Pos):List Frame:=ZsP X.env (Zof X.env (ZmB (c.c1 X it1)) (ZlK X.env)) (ZlK X.env) (c.c1 X it1) q :: c.fs1 X p
end
def ZsQ(P:YE)(w:YF)(K:YA)(mg:Str→Option YG)(base:Heap)(A:Around)(outer:List Env)(n0:Nat)(H0:Hp)(F0:List YD)(a:YD)(g:Nat)(s:YH)(H:Hp):List PyData→End→YH→Prop
 | [],e,s'=>e = .ret (.ok (.ret .none))∧∃ H',Za [] H H'∧Bk P w n0 outer s H s' H'
 | z :: zs,e,s'=>∃ v b l k c p fs x H' pins' N',e = .susp v b l k c p fs∧RelV x v∧Im K H' x z∧Za [] H H' ∧
     Bk P w n0 outer s H s' H'∧ZeH pins' s' H'∧Zmo a g n0 pins'∧N' H'∧Zfy H0 F0 N'∧ZnR P w K mg base A outer n0 H0 F0 a g zs pins' N' e.genState
theorem ZlL{P:YE}{w:YF}{K:YA}{mg:Str→Option YG}{base:Heap}{A:Around}{outer:List Env}{n0:Nat}{H0:Hp}{F0:List YD}{a:YD}{g:Nat}{zs:List PyData}{pins:List (YD×Obj)}{N:Hp→Prop}{gs:GenState}
  (h:∀ s H,Env0 P w K mg base A outer s H→ZeH pins s H→N H→g < s.gens.size→GoX (model P w) A.in1 (s.setGen g .running) (ZsQ P w K mg base A outer n0 H0 F0 a g s H zs) gs):ZnR P w K mg base A outer n0 H0 F0 a g zs pins N gs:=by
 cases zs with
 | nil=>exact h
 | cons z zs=>exact h
section
variable {K:YA} {H:Hp} {C pr dx nl d p1 p2:YD} {Pg:Prg} {m:Str} {b:List Stm} {v2 v3:Option V}
theorem ZmC(T:Zd9 K C p1 p2)(x:ZH K H C pr Pg [pr,dx,nl,d])(e:valA Pg m=some b)(hd:depL b ≤ 4)(hn:(walkL [] 0 b).length ≤ 100000) :
  iList K (te2 K) [some (.ref pr),some (.str m),v2,v3] H fun J H'=>Za [] H H'∧∃ l2 ws,J=Itl K l2∧H l2=none∧H' l2=some (.lst ws)∧ImAll K H' ws ((walkL [] 0 b).map Zgi):=by
 obtain⟨dx',nl',d',ef,h1,h2,h3,mm,h4,r4⟩:=x.ex
 cases ef
 rcases r4.val Zak m with⟨e1,e2⟩ | ⟨v,b',e1,e2,e3⟩
 ·rw[e]at e2; cases e2
 ·rw[e]at e2
  cases e2
  show te2 K _ _ _
  unfold te2
  row_readAll go
  refine⟨pr,C,dx,p2,_,_,_,rfl,h1,T.c,T.s2,rfl,?_⟩
  refine ZhD h4 e1 ?_
  row_readAll go
  refine ZV (by simp) fun q1 H1 f1 k1 s1=>?_
  have ip:Im K H1 (.ref q1) (ZcJ []):=.tup s1 .nil
  refine⟨v,q1,b,[],rfl,e3.mono k1,ip,by omega,hn,by simp,fun l2 ws H2 f2 k2 g2 i2=>?_⟩
  exact⟨l2,rfl,⟨ws,SqL.of g2⟩,k1.trans k2,l2,ws,rfl,k1.free f2,g2,i2⟩
theorem ZmD(T:Zd9 K C p1 p2)(x:ZH K H C pr Pg [pr,dx,nl,d]){v1:Option V}:iList K (tSl K (YS 0) "own_names") [some (.ref pr),v1,v2,v3] H fun J H'=>Za [] H H'∧J=Itl K nl∧H'=H:=by
 obtain⟨dx',nl',d',ef,h1,h2,h3,_⟩:=x.ex
 cases ef
 show tSl K (YS 0) "own_names" _ _ _
 row_readAll go
 refine⟨pr,C,dx,p1,_,_,_,rfl,h1,T.c,T.s1,rfl,?_⟩
 exact⟨nl,rfl,⟨_,SqL.of h3⟩,Za.refl _ _,rfl,trivial⟩
end
structure Zjk(X:Cx)(c:ZcL)(A:Around)(C p1 p2 pr dx nl d a g:Nat)(go:Obj)(H0:Hp)(Pg:Prg):Prop where
 S:Sta X
 D:ZmA X c
 over:X.A=A.in1.deeper X.env
 T:Zd9 X.K C p1 p2
 nd:(Pg.map (·.1)).Nodup
 few:∀ x∈Pg,depL x.2 ≤ 4∧(walkL [] 0 x.2).length ≤ 100000
 go:ZnQ g go
 up:X.env.locals < a
 len:X.N.length=4
structure ZoC(X:Cx)(c:ZcL)(C pr dx nl d a:Nat)(go:Obj)(H0:Hp)(Pg:Prg)(it1:YD)(fp1:List YD)(tn1:Nat→Heap→Prop)(j:Nat)(s0:YH)(Hs:Hp)(s:YH)(H:Hp)(σ:L2.St):Prop where
 le:Zku X s0 Hs s H
 k0:Za [] Hs H
 I:SI X σ H s
 st:∃ v1 v2 v3,σ = [some (.ref pr),v1,v2,v3]
 pa:ZH X.K H C pr Pg [pr,dx,nl,d]
 T1:Turn X.prog X.w X.K c.tg1 (Itl X.K nl) fp1 it1 tn1
 t1:tn1 j s.heap
 o1:Own X fp1 H
 na:a∉fp1
 ga:s.heap.get? a=some go∧H a=none
 dom:∀ b,H0 b≠none→H b≠none
structure InF(X:Cx)(c:ZcL)(C pr dx nl d a:Nat)(go:Obj)(H0:Hp)(Pg:Prg)(it1:YD)(fp1:List YD)(tn1:Nat→Heap→Prop)(j:Nat)(it2:YD)(fp2:List YD)(tn2:Nat→Heap→Prop)(l2:YD)(ws:List V)(m:Str)(b:List Stm)(i:Nat)(s0:YH)(Hs:Hp)(s:YH)(H:Hp)(σ:L2.St):Prop where
 o:ZoC X c C pr dx nl d a go H0 Pg it1 fp1 tn1 (j + 1) s0 Hs s H σ
 mb:Pg[j]? = some (m,b)
 st:∃ v2 v3,σ = [some (.ref pr),some (.str m),v2,v3]
 T2:Turn X.prog X.w X.K c.tg2 (Itl X.K l2) fp2 it2 tn2
 t2:tn2 i s.heap
 o2:Own X fp2 H
 na:a∉fp2
 d12:∀ x∈fp1,x∉fp2
 g2:H l2=some (.lst ws)
 i2:ImAll X.K H ws ((walkL [] 0 b).map Zgi)
 n2:H0 l2=none
section
variable {X:Cx} {c:ZcL} {A:Around} {C p1 p2 pr dx nl d a g:Nat} {go:Obj} {H0 Hs H H':Hp} {Pg:Prg} {it1 it2 l2:YD} {fp1 fp2 ch:List YD} {tn1 tn2:Nat→Heap→Prop} {i j:Nat} {s0 s s':YH} {σ σ':L2.St} {ws:List V} {m:Str} {b:List Stm}
theorem ZnQ.nc(h:ZnQ g go):ZcS go:=fun v e=>by
 obtain⟨_,⟨nm,qn,h2⟩,_⟩:=h
 rw[h2]at e
 cases e
theorem Leg.ga(E:Zjk X c A C p1 p2 pr dx nl d a g go H0 Pg)(l:Leg X ch s H s' H')(na:a∉ch)(h:s.heap.get? a=some go∧H a=none):s'.heap.get? a=some go∧H' a=none:=by
 have nf:a∉frs X.outer:=fun z=>absurd (E.S.low a z) (Nat.not_lt.mpr (Nat.le_of_lt E.up))
 exact⟨l.keep a go h.1 h.2 nf (Nat.ne_of_gt E.up) na (.inr E.go.nc),l.free a go h.1 h.2 (Nat.ne_of_gt E.up) na (.inr E.go.nc)⟩
theorem ZoC.step(E:Zjk X c A C p1 p2 pr dx nl d a g go H0 Pg)(x:ZoC X c C pr dx nl d a go H0 Pg it1 fp1 tn1 j s0 Hs s H σ)(l:Leg X ch s H s' H')(hc:∀ y∈ch,X.env.locals < y)(dj:∀ y∈fp1,y∉ch)(na:a∉ch)(k:Za [] H H')(I:SI X σ' H' s')(st:∃ v1 v2 v3,σ'=[some (.ref pr),v1,v2,v3]) :
  ZoC X c C pr dx nl d a go H0 Pg it1 fp1 tn1 j s0 Hs s' H' σ':=by
 obtain⟨h1,h2⟩:=Leg.tn E.S x.T1 x.o1 dj l x.t1
 exact⟨x.le.trans E.S (l.toE hc),x.k0.trans k,I,st,x.pa.k0 k,x.T1,h1,h2,x.na,l.ga E na x.ga,fun y hy=>Zgw k y (x.dom y hy)⟩
theorem ZmE{fp:List YD}{h:Heap}{y:YD}{o:Obj}(hp:ZeH (pinsAt fp h) s H)(hy:y∈fp)(e:h.get? y=some o):s.heap.get? y=some o∧H y=none:=hp (y,o) (mem_pinsAt hy e)
theorem ZiN(E:Zjk X c A C p1 p2 pr dx nl d a g go H0 Pg)(p q:Pos):A.in1.over (c.c1 X it1) (c.fs1 X p)=X.A∧A.in1.over (c.c2 X it2) (c.fs2 X it1 p q)=X.A:=by
 have e0:A.in1.over (.func c.b0 X.env) []=X.A:=over_func.trans E.over.symm
 have e1:A.in1.over (c.c1 X it1) (c.fs1 X p)=X.A:=(over_loop rfl rfl).trans e0
 exact⟨e1,(over_loop rfl rfl).trans e1⟩
theorem nxt{it2:YD}{F:End→YH→Prop}{fs:List Frame}(h:SgX (model X.prog X.w) A.in1 (c.c2 X it2) ((model X.prog X.w).den (c.c2 X it2)) fs s F):SgX (model X.prog X.w) A.in1 (c.c2 X it2) (Zof X.env (ZmB (c.c2 X it2)) (ZlK X.env) .next) fs s F:=by
 show SgX _ _ _ (.pure (.again (c.c2 X it2))) fs s F
 exact ZhH rfl h
theorem ZmF(h:Pg[j]? = some (m,b)):ZdP (Pg.drop j)=ZkI (m,b)++ZdP (Pg.drop (j + 1)):=by
 have hj:=(Yk.mp h)
 obtain⟨hl,e⟩:=hj
 rw[← List.getElem_cons_drop hl,e,Zhn]
theorem Zku.setG(S:Sta X){y:GenState}:Zku X s H (s.setGen g y) H :=
 ⟨[],by simp,rfl,fun _ _ e _ _ _ _ _=>e,fun b o e _ _=>⟨o.slots,e⟩,fun _ _ _ n _ _ _=>n,fun _ _ e=>e,fun _ _ _ e=>e,fun _ ps e=>⟨#[],by rw[e]; simp⟩,fun b o e _ _ d=>⟨o,e,d⟩⟩
abbrev ZsR(X:Cx)(A:Around)(H0:Hp)(F0:List YD)(a g:Nat)(s0:YH)(Hs:Hp)(zs:List PyData):End→YH→Prop:=ZsQ X.prog X.w X.K X.mg X.base A X.outer X.env.locals H0 F0 a g s0 Hs zs
def ZmG(X:Cx)(c:ZcL)(A:Around)(C pr dx nl d a g:Nat)(go:Obj)(H0:Hp)(Pg:Prg)(zs:List PyData)(r:Nat):Prop:=∀ (j:Nat) it1 fp1 tn1 s0 Hs s H σ p,Pg.length - j=r→zs=ZdP (Pg.drop j)→ZoC X c C pr dx nl d a go H0 Pg it1 fp1 tn1 j s0 Hs s H σ →
 SgX (model X.prog X.w) A.in1 (c.c1 X it1) ((model X.prog X.w).den (c.c1 X it1)) (c.fs1 X p) s (ZsR X A H0 [pr,dx,nl,d] a g s0 Hs zs)
def Zq0(X:Cx)(c:ZcL)(A:Around)(C pr dx nl d a g:Nat)(go:Obj)(H0:Hp)(Pg:Prg)(zs:List PyData)(r:Nat):Prop:=∀ (j i:Nat) it1 fp1 tn1 it2 fp2 tn2 l2 ws m b s0 Hs s H σ p q,Pg.length - (j + 1)=r→zs=((walkL [] 0 b).drop i).map (ZlJ m)++ZdP (Pg.drop (j + 1)) →
 InF X c C pr dx nl d a go H0 Pg it1 fp1 tn1 j it2 fp2 tn2 l2 ws m b i s0 Hs s H σ→SgX (model X.prog X.w) A.in1 (c.c2 X it2) ((model X.prog X.w).den (c.c2 X it2)) (c.fs2 X it1 p q) s (ZsR X A H0 [pr,dx,nl,d] a g s0 Hs zs)
theorem Turn.nc{P:YE}{w:YF}{K:YA}{tg:Expr}{J:It}{fp:List YD}{it:YD}{tn:Nat→Heap→Prop}{h:Heap}{i:Nat}(T:Turn P w K tg J fp it tn)(t:tn i h){p:YD×Obj}(hp:p∈pinsAt fp h):p.1∈fp∧ZcS p.2:=by
 obtain⟨h1,h2⟩:=of_pinsAt hp
 obtain⟨o,e,nc⟩:=T.obj _ _ t p.1 h1
 rw[h2]at e
 cases e
 exact⟨h1,nc⟩
theorem Zog(E:Zjk X c A C p1 p2 pr dx nl d a g go H0 Pg){zs:List PyData}{r:Nat}(ih:∀ (zs':List PyData) r',zs'.length < zs.length→Zq0 X c A C pr dx nl d a g go H0 Pg zs' r')(out:ZmG X c A C pr dx nl d a g go H0 Pg zs r):Zq0 X c A C pr dx nl d a g go H0 Pg zs r:=by
 intro j i it1 fp1 tn1 it2 fp2 tn2 l2 ws m b s0 Hs s H σ p q hr ez x
 obtain⟨v2,v3,rfl⟩:=x.st
 have hov:=(ZiN E (it1:=it1) (it2:=it2) p q).2
 have lw:=x.i2.length
 rw[Yb]at lw
 have up2:∀ y∈fp2,X.env.locals < y:=fun y hy=>(x.o2.up y hy).1
 refine Zhh ?_
 rw[hov]
 by_cases hi:i < (walkL [] 0 b).length
 ·have hrow:(walkL [] 0 b)[i]? = some (walkL [] 0 b)[i]:=Yw hi
  generalize (walkL [] 0 b)[i]=row at hrow
  obtain⟨wv,hw⟩:∃ wv,ws[i]? = some wv:=⟨_,Yw (by omega)⟩
  obtain⟨dd,hd,iw⟩:=x.i2.get hw
  rw[Ym,hrow]at hd
  cases hd
  have go2:(Itl X.K l2).go i H:=⟨_,wv,SqL.of x.g2,hw⟩
  refine wpAny_mono (Zj0 E.S x.o.I x.T2 x.o2 x.t2 go2 fun y H' yy=>by rw[yy.1]; exact Za.refl _ _) (fun r1 s1 ⟨u,hr1,h1⟩=>?_) fun _ _ z=>z
  subst hr1
  refine wpAny_mono h1 (fun _ s2 ⟨y,H2,I2,lg,ry,yy,t2,o2⟩=>?_) fun _ _ z=>z
  obtain⟨rfl,yv⟩:=yy
  have ey:=yv _ (SqL.of x.g2)
  rw[hw]at ey
  cases ey
  obtain⟨cT,ys,rfl,sT,iT⟩:=iw.of_tup
  obtain⟨u1,r1,rfl,i1,iT⟩:=iT.of_cons
  obtain⟨u2,r2,rfl,i2,iT⟩:=iT.of_cons
  cases iT.of_nil
  have x2:=x.o.step E lg up2 x.d12 x.na (Za.refl _ _) I2 ⟨_,_,_,rfl⟩
  have rd:gTup X.K 2 (gCons (Y4 2) (gCons (Y4 3) gNil)) (.ref cT) [some (.ref pr),some (.str m),v2,v3] H2 fun σ' H'=>Za [] H2 H'∧H'=H2∧σ'=[some (.ref pr),some (.str m),some u1,some u2]:=by
   refine ZiG sT ?_
   exact⟨Za.refl _ _,rfl,rfl⟩
  refine wpAny_mono (Zna E.S I2 (E.D.g2 _ _) ry rd) (fun _ s3 ⟨σ3,H3,I3,l3,k3,eH,eσ⟩=>?_) fun _ _ z=>z
  subst eH
  subst eσ
  have x3:=x2.step E l3 (by simp) (by simp) (by simp) (Za.refl _ _) I3 ⟨_,_,_,rfl⟩
  obtain⟨t3,o3⟩:=Leg.tn E.S x.T2 o2 (by simp) l3 t2
  show SgX _ _ _ ((execs c.b2 X.env).wrap (ZmB (c.c2 X it2)) (ZlK X.env) id id) _ _ _
  rw[show execs c.b2 X.env=execs [.Expr (.Yield (some c.ye) c.yp) c.p3] X.env from rfl,execs_cons_wrap]
  refine ZhK rfl rfl rfl ?_ E.D.co E.D.ia
  rw[hov]
  have ry3:Zs X.K (YT (YS 1) (YT (YS 2) (YT (YS 3) YZ))) [some (.ref pr),some (.str m),some u1,some u2] H3 fun y H'=>Za [] H3 H'∧Im X.K H' y (ZlJ m row):=by
   row_readAll go
   refine ZV (by row_readAll ln) fun q1 H1 f1 k1 s1=>⟨k1,?_⟩
   exact .tup s1 (.cons (.str m) (.cons (i1.mono k1) (.cons (i2.mono k1) .nil)))
  refine wpAny_mono (ZpV E.S I3 (E.D.ye _ _) ry3) (fun v s4 ⟨y,H4,I4,l4,r4,k4,iy⟩=>?_) fun _ _ z=>z
  intro yb yl kk yp hkk
  have x4:=x3.step E l4 (by simp) (by simp) (by simp) k4 I4 ⟨_,_,_,rfl⟩
  obtain⟨t4,o4⟩:=Leg.tn E.S x.T2 o3 (by simp) l4 t3
  have g4:=k4.obj _ _ Ya x.g2
  have i4:=x.i2.mono k4
  have ezs:zs=ZlJ m row :: (((walkL [] 0 b).drop (i + 1)).map (ZlJ m)++ZdP (Pg.drop (j + 1))):=by
   rw[ez]
   have:(walkL [] 0 b).drop i=row :: (walkL [] 0 b).drop (i + 1):=by
    have e:=(Yk.mp hrow)
    obtain⟨hl,e⟩:=e
    rw[← List.getElem_cons_drop hl,e]
   rw[this]
   rfl
  rw[ezs]
  have ⟨mL,hns,hlook⟩:=I4.loc
  obtain⟨oL,es,ep,eoL,edL,_⟩:=id hns
  refine⟨v,yb,yl,kk,c.c2 X it2,yp,c.fs2 X it1 p q,y,H4,pinsAt (a :: X.env.locals :: (fp1++fp2)) s4.heap,fun Hn=>ZH X.K Hn C pr Pg [pr,dx,nl,d]∧(∃ ws',Hn l2=some (.lst ws')∧ImAll X.K Hn ws' ((walkL [] 0 b).map Zgi))∧∀ b,H0 b≠none→Hn b≠none,
   rfl,r4,iy,x4.k0,?_,?_,?_,⟨x4.pa,⟨ws,g4,i4⟩,x4.dom⟩,?_,ZlL fun sn Hn en pk hN lg=>?_⟩
  ·obtain⟨ch,hc,lg'⟩:=x4.le
   exact lg'.bk hc I4.bare I4.hok
  ·intro pp hp
   obtain⟨h1,h2⟩:=of_pinsAt hp
   refine⟨h2,?_⟩
   rcases Yn.mp h1 with e | h1
   ·rw[e]; exact x4.ga.2
   ·rcases Yn.mp h1 with e | h1
    ·rw[e]; exact I4.free
    ·rcases Yh.mp h1 with h1 | h1
     ·exact(x4.o1.up _ h1).2
     ·exact(o4.up _ h1).2
  ·refine⟨⟨go,mem_pinsAt Yg x4.ga.1,E.go⟩,fun pp hp=>?_⟩
   obtain⟨h1,h2⟩:=of_pinsAt hp
   rcases Yn.mp h1 with e | h1
   ·rw[e,x4.ga.1]at h2
    cases h2
    rw[e]
    exact⟨Nat.le_of_lt E.up,E.go.nc⟩
   ·rcases Yn.mp h1 with e | h1
    ·rw[e]at h2
     rw[show s4.heap.get? X.env.locals=some oL from eoL]at h2
     cases h2
     rw[e]
     exact⟨YO _,fun v z=>by rw[edL]at z; cases z⟩
    ·rcases Yh.mp h1 with h1 | h1
     ·obtain⟨o',e',nc⟩:=x.o.T1.obj _ _ x4.t1 pp.1 h1
      rw[h2]at e'
      cases e'
      exact⟨Nat.le_of_lt (x4.o1.up _ h1).1,nc⟩
     ·obtain⟨o',e',nc⟩:=x.T2.obj _ _ t4 pp.1 h1
      rw[h2]at e'
      cases e'
      exact⟨Nat.le_of_lt (o4.up _ h1).1,nc⟩
  ·intro Ha Hb S ⟨q1,⟨ws',q2,q3⟩,q4⟩ k hS
   refine⟨q1.keep k fun y hy z=>(hS y z).1 hy,⟨ws',k.obj _ _ (fun z=>(hS l2 z).2 x.n2) q2,q3.mono k⟩,fun y hy=>?_⟩
   cases e:Ha y with
   | none=>exact(q4 y hy e).elim
   | some u =>
     obtain⟨u',e'⟩:=k.dom y u e
     rw[e']
     exact fun z=>(nomatch z)
  ·-- woken again
   obtain⟨q1,⟨ws',q2,q3⟩,q4⟩:=hN
   have at_:∀ {y:YD} {o:Obj},y∈a :: X.env.locals :: (fp1++fp2)→s4.heap.get? y=some o→sn.heap.get? y=some o∧Hn y=none:=fun {y o} hy e=>ZmE pk hy e
   have gL:=at_ (Yf _ Yg) eoL
   have tt1:tn1 (j + 1) sn.heap:=x.o.T1.keep _ _ _ x4.t1 fun y hy o e=>(at_ (Yf _ (Yf _ (Yo _ hy))) e).1
   have tt2:tn2 (i + 1) sn.heap:=x.T2.keep _ _ _ t4 fun y hy o e=>(at_ (Yf _ (Yf _ (Yp _ hy))) e).1
   have oo1:Own X fp1 Hn:=⟨fun y hy=>⟨(x4.o1.up y hy).1,by
    obtain⟨o',e',_⟩:=x.o.T1.obj _ _ x4.t1 y hy
    exact(at_ (Yf _ (Yf _ (Yo _ hy))) e').2⟩⟩
   have oo2:Own X fp2 Hn:=⟨fun y hy=>⟨(o4.up y hy).1,by
    obtain⟨o',e',_⟩:=x.T2.obj _ _ t4 y hy
    exact(at_ (Yf _ (Yf _ (Yp _ hy))) e').2⟩⟩
   have en':Env0 X.prog X.w X.K X.mg X.base A X.outer (sn.setGen g .running) Hn:=⟨en.frames,en.mod,en.bs,en.bsz,en.funs,en.frf,en.hok,allBare_setGen en.bare rfl⟩
   have loc':ZnU X [some (.ref pr),some (.str m),some u1,some u2] (sn.setGen g .running):=by
    refine⟨mL,⟨oL,es,ep,gL.1,edL,by assumption⟩,fun k nm vv e1 e2 e3=>?_⟩
    obtain⟨u',ru,lk⟩:=hlook k nm vv e1 e2 e3
    refine⟨u',ru,?_⟩
    rcases lk with lk | ⟨_,cc,e,_⟩
    ·exact .inl lk
    ·have e:X.env.cells.lookup nm=some cc:=e
     rw[E.S.nc]at e
     cases e
   have In:SI X [some (.ref pr),some (.str m),some u1,some u2] Hn (sn.setGen g .running):=ZrV E.S en' loc' gL.2 E.len.symm
   have fin:=ih (((walkL [] 0 b).drop (i + 1)).map (ZlJ m)++ZdP (Pg.drop (j + 1))) r (by rw[ezs,Yd]; omega) j (i + 1) it1 fp1 tn1 it2 fp2 tn2 l2 ws' m b sn Hn (sn.setGen g .running) Hn _ p q hr rfl
    ⟨⟨Zku.setG E.S,Za.refl _ _,In,⟨_,_,_,rfl⟩,q1,x.o.T1,tt1,oo1,x.o.na,at_ Yg x4.ga.1,q4⟩,x.mb,⟨_,_,rfl⟩,x.T2,tt2,oo2,x.na,x.d12,q2,q3,x.n2⟩
   exact hkk _ _ (nxt fin)
 ·-- the rows are at their end
  have hs:(Itl X.K l2).stop i H:=⟨ws,SqL.of x.g2,by omega⟩
  refine wpAny_mono (Zj1 E.S x.o.I x.T2 x.o2 x.t2 hs) (fun r1 s1 ⟨hr1,I1,lg⟩=>?_) fun _ _ z=>z
  subst hr1
  have x1:=x.o.step E lg up2 x.d12 x.na (Za.refl _ _) I1 ⟨_,_,_,rfl⟩
  refine Zli (.ok .next) ?_
  show SgX _ _ (c.c1 X it1) (.pure (.again (c.c1 X it1))) _ s1 _
  refine ZhH rfl (out (j + 1) it1 fp1 tn1 s0 Hs s1 H _ p hr ?_ x1)
  rw[ez,List.drop_of_length_le (by omega)]
  rfl
theorem ZmH(E:Zjk X c A C p1 p2 pr dx nl d a g go H0 Pg){zs:List PyData}{r:Nat}(inn:∀ r',r' + 1=r→Zq0 X c A C pr dx nl d a g go H0 Pg zs r'):ZmG X c A C pr dx nl d a g go H0 Pg zs r:=by
 intro j it1 fp1 tn1 s0 Hs s H σ p hr ez x
 obtain⟨v1,v2,v3,rfl⟩:=x.st
 have hov:=(ZiN E (it1:=it1) (it2:=it1) p p).1
 obtain⟨dx',nl',d',ef,_,_,g3,_⟩:=x.pa.ex
 cases ef
 have up1:∀ y∈fp1,X.env.locals < y:=fun y hy=>(x.o1.up y hy).1
 refine Zhh ?_
 rw[hov]
 by_cases hj:j < Pg.length
 ·have hm:Pg[j]? = some Pg[j]:=Yw hj
  generalize Pg[j]=mb at hm
  obtain⟨m,b⟩:=mb
  have go1:(Itl X.K nl).go j H:=⟨_,.str m,SqL.of g3,by rw[Ym,Ym,hm]; rfl⟩
  refine wpAny_mono (Zj0 E.S x.I x.T1 x.o1 x.t1 go1 fun y H' yy=>by rw[yy.1]; exact Za.refl _ _) (fun r1 s1 ⟨u,hr1,h1⟩=>?_) fun _ _ z=>z
  subst hr1
  refine wpAny_mono h1 (fun _ s2 ⟨y,H2,I2,lg,ry,yy,t2,o2⟩=>?_) fun _ _ z=>z
  obtain⟨rfl,yv⟩:=yy
  have ey:=yv _ (SqL.of g3)
  rw[Ym,Ym,hm]at ey
  cases ey
  refine wpAny_mono (Zna E.S I2 (E.D.g1 _ _) ry (N:=fun σ' H'=>H'=H2∧σ'=[some (.ref pr),some (.str m),v2,v3]) ⟨Za.refl _ _,rfl,rfl⟩) (fun _ s3 ⟨σ3,H3,I3,l3,k3,eH,eσ⟩=>?_) fun _ _ z=>z
  subst eH
  subst eσ
  have x3:ZoC X c C pr dx nl d a go H0 Pg it1 fp1 tn1 (j + 1) s0 Hs s3 H3 [some (.ref pr),some (.str m),v2,v3]:=by
   obtain⟨q1,q2⟩:=Leg.tn E.S x.T1 o2 (by simp) l3 t2
   exact⟨(x.le.trans E.S (lg.toE up1)).trans E.S l3.e0,x.k0,I3,⟨_,_,_,rfl⟩,x.pa,x.T1,q1,q2,x.na,l3.ga E (by simp) (lg.ga E x.na x.ga),x.dom⟩
  show SgX _ _ _ ((execs c.b1 X.env).wrap (ZmB (c.c1 X it1)) (ZlK X.env) id id) _ _ _
  rw[show execs c.b1 X.env=execs [.For c.tg2 c.iter2 c.b2 [] c.p2] X.env from rfl,execs_cons_wrap]
  refine Zm_ ?_ E.D.f2
  rw[hov]
  have hmem:(m,b)∈Pg:=Yj hm
  obtain⟨f1,f2⟩:=E.few _ hmem
  have rd:=ZmC (m:=m) (b:=b) (v2:=v2) (v3:=v3) E.T x3.pa (Zab E.nd hmem) f1 f2
  refine wpAny_mono (Znb E.S I3 (E.D.i2 _ _) rd) (fun v s4 h4=>wpAny_mono h4 (fun itv s5 h5=>?_) fun _ _ z=>z) fun _ _ z=>z
  obtain⟨it2,fp2,tn2,J,H5,rfl,I5,l5,T2,t5,o5,dj,k5,l2,ws,rfl,fl2,g5,i5⟩:=h5
  intro q
  have nofp:∀ {y:YD} {o:Obj},s3.heap.get? y=some o→X.env.locals < y→H3 y=none→ZcS o→y∉fp2:=fun {y o} e1 e2 e3 e4=>dj y o e1 e2 e3 e4
  have d12:∀ y∈fp1,y∉fp2:=fun y hy=>by
   obtain⟨o',e',nc⟩:=x.T1.obj _ _ x3.t1 y hy
   exact nofp e' (x3.o1.up y hy).1 (x3.o1.up y hy).2 nc
  have x5:=x3.step E l5 (by simp) (by simp) (by simp) k5 I5 ⟨_,_,_,rfl⟩
  refine inn (Pg.length - (j + 1)) (by omega) j 0 it1 fp1 tn1 it2 fp2 tn2 l2 ws m b s0 Hs s5 H5 _ p q rfl ?_ ⟨x5,hm,⟨_,_,rfl⟩,T2,t5,o5,nofp x3.ga.1 E.up x3.ga.2 E.go.nc,d12,g5,i5,?_⟩
  ·rw[ez,ZmF hm,List.drop_zero]
   rfl
  ·cases e:H0 l2 with
   | none=>rfl
   | some u=>exact(x3.dom l2 (by rw[e]; exact fun z=>(nomatch z)) fl2).elim
 ·-- the modules are at their end
  have hs:(Itl X.K nl).stop j H:=⟨_,SqL.of g3,by rw[Yb,Yb]; omega⟩
  refine wpAny_mono (Zj1 E.S x.I x.T1 x.o1 x.t1 hs) (fun r1 s1 ⟨hr1,I1,lg⟩=>?_) fun _ _ z=>z
  subst hr1
  refine Zli (.ok .next) ?_
  show SgX _ _ (.func c.b0 X.env) (leafOf (.ok (.ret .none))) [] s1 _
  refine ZpT _ ?_
  rw[ez,List.drop_of_length_le (by omega)]
  have le1:=x.le.trans E.S (lg.toE up1)
  obtain⟨ch,hc,lg'⟩:=le1
  exact⟨rfl,H,x.k0,lg'.bk hc I1.bare I1.hok⟩
theorem ZlM(E:Zjk X c A C p1 p2 pr dx nl d a g go H0 Pg):∀ (n:Nat) (zs:List PyData),zs.length=n→∀ r,ZmG X c A C pr dx nl d a g go H0 Pg zs r∧Zq0 X c A C pr dx nl d a g go H0 Pg zs r:=by
 intro n
 induction n using Nat.strongRecOn with
 | ind n ihn =>
   intro zs hz r
   induction r using Nat.strongRecOn with
   | ind r ihr =>
     have o:ZmG X c A C pr dx nl d a g go H0 Pg zs r:=ZmH E fun r' h=>(ihr r' (by omega)).2
     exact⟨o,Zog E (fun zs' r' hl=>(ihn zs'.length (by omega) zs' rfl r').2) o⟩
end
theorem Zoh{P:YE}{w:YF}{A:Around}{F:End→YH→Prop}{fs:List Frame}{s:YH}{env:Env}{body:List YI}(h:SgX (model P w) A (.func body env) ((execs body env).wrap Zse (ZqZ env) id id) fs s F) :
  SgX (model P w) A (.func body env) ((model P w).den (.func body env)) fs s F:=by
 show SgX _ A _ (.point [] fun _=>((execs body env).onRaise (leaving env)) >>= _) fs s F
 refine Zmm ?_
 rw[Sem.onRaise_eq_wrap,Sem.bind_eq_wrap',Sem.wrap_wrap]
 rw[Sem.wrap_congr (execs body env) _ _ (K':=Zse) (H':=ZqZ env) (fun f=>by cases f <;> rfl) (fun e=>by rw[Sem.bind_eq_wrap,Sem.wrap_wrap]; rfl)]
 exact h
def Zng(P:YE)(w:YF)(K:YA)(mg:Str→Option YG)(base:Heap)(N:List Str)(qual:Str)(scope:Scope)(f:YD)(cd:YG)(A:Around)(outer:List Env)(s:YH)(H:Hp):Cx :=
 { cxOf CX0 P w K mg base N qual scope f cd A outer s H E0 with xe:=fun _ _=>False }
structure Zq1(N P:List Str)(sc:Scope):Prop where
 g:GScope N P sc
 nk:∀ x,sc.names.lookup x≠some .cell∧sc.names.lookup x≠some .free
 nc:∀ n,cellsFrom n sc.names []=[]
def ZmI(K:YA)(C:YD)(te:TE):TIG:=fun σ H R=>te σ H fun x H1=>∃ pr Pg pf,x = .ref pr∧ZH K H1 C pr Pg pf∧(Pg.map (·.1)).Nodup∧(∀ x∈Pg,depL x.2 ≤ 4∧(walkL [] 0 x.2).length ≤ 100000)∧R (ZdP Pg) pf H1
theorem ZmJ{P:YE}{w:YF}{K:YA}{mg:Str→Option YG}{base:Heap}{N ps:List Str}{qual:Str}{scope:Scope}{f:YD}{cd:YG}{A:Around}{outer:List Env}{s:YH}{H:Hp}
  (S:Zq1 N ps scope) (hd:A.handled=none) (e0:Env0 P w K mg base A outer s H):Sta (Zng P w K mg base N qual scope f cd A outer s H) where
 mod:=e0.mod
 kind:=S.g.kind
 glob:=rfl
 blt:=rfl
 nc:=fun x=>by
  show(cellsFrom (s.heap.objs.size + 1) scope.names []).lookup x=none
  rw[S.nc]; rfl
 nk:=fun x h=>by
  have h:scope.names.lookup x=some .cell∨scope.names.lookup x=some .free:=h
  rcases h with h | h
  ·exact(S.nk x).1 h
  ·exact(S.nk x).2 h
 hd:=hd
 calm:=rfl
 frames:=Around.frames_deeper e0.frames
 stk:=rfl
 frm:=rfl
 bsz:=e0.bsz
 low:=fun b hb=>by
  obtain⟨_,o,e,_⟩:=e0.funs.mem hb
  exact Heap.lt_size e
 nx:=fun _ _ h=>h
structure PIF(X:Cx)(iter:Expr)(wi:TIG):Prop where
 run:∀ (pins:List (YD×Obj)) (s:YH) (σ:L2.St) (H:Hp) (R:List PyData→List YD→Hp→Prop),Inv X pins σ H s→wi σ H R →
  wpAny (model X.prog X.w) X.A (eval iter X.env) (fun v s1=>∃ a g n0 zs F0 H1 pG gs,v = .ref a∧R zs F0 H1∧Low X n0 pins∧Inv X (pins++pG) σ H1 s1∧Zmo a g n0 pG∧s1.gens[g]? = some gs∧(∀ b∈F0,H1 b≠none) ∧
   ∀ H0,Za [] H1 H0→∃ N:Hp→Prop,N H0∧Zfy H0 F0 N∧ZnR X.prog X.w X.K X.mg X.base X.A X.stack n0 H0 F0 a g zs pG N gs) X.xe s
theorem Zqq{K:YA}{H:Hp}{C a b:YD}{P:Prg}{pf:List YD}(x:ZH K H C a P pf)(hb:b∈pf):H b≠none:=by
 obtain⟨dx,nl,d,rfl,h1,h2,h3,m,h4,_⟩:=x.ex
 intro z
 simp only[Yn,Ya,or_false]at hb
 rcases hb with rfl | rfl | rfl | rfl
 ·rcases h1 with⟨y,_⟩ | ⟨y,_⟩ <;> (rw[z]at y; cases y)
 ·rw[z]at h2; cases h2
 ·rw[z]at h3; cases h3
 ·rw[z]at h4; cases h4
theorem ZmK{X:Cx}{o:Expr}{te:TE}{C p1 p2 f:YD}{fd:YC}{params:Arguments}{scope:Scope}{qual:Str}{c:ZcL}{apos pos:Pos}{k:Nat}{pl:Sem Bool}(hx:∀ e s',¬ X.xe e s')(hc:X.calm=true)(he:PE X o te)(T:Zd9 X.K C p1 p2)(hm:Meth X.K C "each_statement" f)
  (F:FunD X.K "each_statement" qual params c.b0 scope [] [] f fd) (S:Zq1 ["self", "name", "path", "statement"] ["self"] scope) (hb:Binds X.K fd ["self"] []) (hr:Room (k + 1) X.A)
  (D:∀ (cdv:YG) (A:Around) (outer:List Env) (s:YH) (H:Hp),Room k (A.deeper (envOfC qual scope s.heap.objs.size f cdv))→ZmA (Zng X.prog X.w X.K X.mg X.base ["self", "name", "path", "statement"] qual scope f cdv A outer s H) c)
  (ht:eval (.Call (.Attribute o "each_statement" apos) [] [] pos) X.env=(do
   let ov ← eval o X.env
   standAt apos.atName
   let (f,first) ← holding [ov] (getMethod ov "each_statement" pl)
   callWith pos f first (backTo pos (starEach [] X.env)) (backToKw pos (keywordEach [] X.env))):=by rfl) :
  PIF X (.Call (.Attribute o "each_statement" apos) [] [] pos) (ZmI X.K C te):=by
 refine⟨fun pins s σ H R I h=>?_⟩
 refine PySem.W.methodCall_KW (pl:=pl) (thn (he.run pins s σ H _ I h) fun u s1 ⟨x,H1,I1,rx,pr,Pg,pf,ex,xp,nd,few,hR⟩=>?_) ht
 subst ex
 obtain rfl:u=Value.ref pr:=rx
 obtain⟨dx,nl,d,rfl,hsl,_⟩:=xp.ex
 refine getmethsl_ok I1 hsl T.c hm ?_
 refine PySem.W.callWith_K0 (first:=[.ref pr]) I1.kIn hm.kp ?_
 obtain⟨oc,od,dV,kV,doc,pm,an,cdv,ct,osl,rfl,lk,hcd,_,_⟩:=F.ex
 have e0:Env0 X.prog X.w X.K X.mg X.base X.A X.stack s1 H1:=I1.env0
 have KX:X.K.In s1.heap:=I1.kIn
 have lim:s1.heap.NoLimit:=I1.nolimit
 have hhd:X.A.handled=none:=I1.ok.hd hc
 refine wpAny_call (codeAny_call_generator hr.depth (KX _ _ lk) rfl S.g.co S.g.gen rfl (PySem.W.codeRec_of KX hcd) (hb s1 [.ref pr] KX rfl _ _ _ _ ?_))
 have hkind:∀ y∈(["self"]:List Str).zip ([Value.ref pr]++[]),scope.names.lookup y.1=some .local∨(scope.names.lookup y.1=some .cell∧((cellsFrom (s1.heap.objs.size + 1) scope.names []).lookup y.1).isSome=true):=fun⟨n,v⟩ hy=>by
  rcases S.g.par n (List.of_mem_zip hy).1 with q | q
  ·exact .inl q
  ·exact .inr ⟨q,PySem.W.cellsFrom_some _ _ _ (.inl q)⟩
 refine wpAny_newFunctionEnv_cells S.g.kind hkind fun env hen s2 y=>?_
 subst hen
 have lim2:s2.heap.NoLimit:=lim.keeps y.toInCall.keep
 refine⟨lim2,?_⟩
 obtain⟨h2,tk,es2,hk2⟩:=y.done
 have lt2:s1.heap.objs.size < s2.heap.objs.size:=y.toInCall.ns.lt
 have rv:Vals [V.ref pr] [Value.ref pr]:=.cons rfl .nil
 have I2:=inv_startG (N:=["self", "name", "path", "statement"]) (ps:=["self"]) (A:=X.A.in1) (E:=fun _ _ _=>False) S.g hhd ⟨e0.frames,e0.mod,e0.bs,e0.bsz,e0.funs,e0.frf,e0.hok,e0.bare⟩ rfl rv y
 obtain⟨mL,hns,hlook⟩:=I2.loc
 obtain⟨oL,esL,epL,eoL,edL,rL⟩:=id hns
 have main:∀ (go:Obj) (nm qn:YG) (tk2:Nat),go.cls = .type "generator" → go.data = .fields #[.int s2.gens.size 0,nm,qn]→go.slots = #[]→(∀ h:Heap,(h.push go).get? h.objs.size=some go) →
   ∃ a g n0 zs F0 Hx pG gs,Value.ref s2.heap.objs.size = .ref a∧R zs F0 Hx∧Low X n0 pins∧Inv X (pins++pG) σ Hx { s2 with gens:=s2.gens.push (.fresh (.func c.b0 (envOfC qual scope s1.heap.objs.size f cdv))),toks:=tk2,heap:=s2.heap.push go }∧Zmo a g n0 pG∧(s2.gens.push (.fresh (.func c.b0 (envOfC qual scope s1.heap.objs.size f cdv))))[g]? = some gs∧(∀ b∈F0,Hx b≠none) ∧
     ∀ H0,Za [] Hx H0→∃ N:Hp→Prop,N H0∧Zfy H0 F0 N∧ZnR X.prog X.w X.K X.mg X.base X.A X.stack n0 H0 F0 a g zs pG N gs:=by
  intro go nm qn tk2 hgc hgd hgs hgp
  have hgo:ZnQ s2.gens.size go:=⟨hgc,⟨nm,qn,hgd⟩,hgs⟩
  have low:Low X s1.heap.objs.size pins:=⟨I1.sz,I1.lt,fun x c' e=>by
   obtain⟨v,ob,e',_⟩:=I1.cell x c' e
   exact Heap.lt_size e',fun p hp=>Heap.lt_size (I1.pin p hp).1⟩
  have kp2:∀ b o,s1.heap.get? b=some o→s2.heap.get? b=some o:=y.toInCall.keep
  have kp3:∀ b o,s1.heap.get? b=some o→(s2.heap.push go).get? b=some o:=fun b o e=>YL _ (kp2 b o e)
  have I3:Inv X pins σ H1 { s1 with heap:=s2.heap.push go,toks:=tk2 }:=I1.kept (t':=tk2) kp3
  have bare3:AllBare (s2.gens.push (.fresh (.func c.b0 (envOfC qual scope s1.heap.objs.size f cdv)))):=AllBare.push (by rw[es2]; exact e0.bare) rfl
  have I4:Inv X pins σ H1 { s2 with gens:=s2.gens.push (.fresh (.func c.b0 (envOfC qual scope s1.heap.objs.size f cdv))),toks:=tk2,heap:=s2.heap.push go }:=by
   have:=Inv.gensOf I3 bare3
   rw[es2]at this ⊢
   exact this
  have freeG:H1 s2.heap.objs.size=none:=I1.hok.fresh (Nat.le_of_lt lt2)
  have freeL:H1 s1.heap.objs.size=none:=I1.hok.fresh (YO _)
  have gat:(s2.heap.push go).get? s2.heap.objs.size=some go:=hgp _
  have Lat:(s2.heap.push go).get? s1.heap.objs.size=some oL:=YL _ eoL
  have pg:Zmo s2.heap.objs.size s2.gens.size s1.heap.objs.size [(s2.heap.objs.size,go),(s1.heap.objs.size,oL)]:=by
   refine⟨⟨go,Yg,hgo⟩,fun p hp=>?_⟩
   rcases Yn.mp hp with rfl | hp
   ·exact⟨Nat.le_of_lt lt2,hgo.nc⟩
   ·rw[Ye.mp hp]
    exact⟨YO _,fun v z=>by rw[edL]at z; cases z⟩
  refine⟨s2.heap.objs.size,s2.gens.size,s1.heap.objs.size,ZdP Pg,[pr,dx,nl,d],H1,[(s2.heap.objs.size,go),(s1.heap.objs.size,oL)],.fresh (.func c.b0 (envOfC qual scope s1.heap.objs.size f cdv)),rfl,hR,low,ZnT low I4 pg (fun p hp=>?_),pg,Array.getElem?_push_size ..,fun b hb=>Zqq xp hb,fun H0 kH0=>⟨fun Hn=>ZH X.K Hn C pr Pg [pr,dx,nl,d]∧∀ b,H0 b≠none→Hn b≠none,
   ⟨xp.k0 kH0,fun b h=>h⟩,?_,ZlL fun sn Hn en pk ⟨q1,q4⟩ lg=>?_⟩⟩
  ·rcases Yn.mp hp with rfl | hp
   ·exact⟨gat,freeG⟩
   ·rw[Ye.mp hp]
    exact⟨Lat,freeL⟩
  ·intro Ha Hb S2 ⟨q1,q4⟩ k hS
   refine⟨q1.keep k fun y hy z=>(hS y z).1 hy,fun y hy=>?_⟩
   cases e:Ha y with
   | none=>exact(q4 y hy e).elim
   | some u =>
     obtain⟨u',e'⟩:=k.dom y u e
     rw[e']
     exact fun z=>(nomatch z)
  ·-- the first leg
   have gG:=pk (s2.heap.objs.size,go) Yg
   have gL:=pk (s1.heap.objs.size,oL) (Yf _ Yg)
   have St:Sta (Zng X.prog X.w X.K X.mg X.base ["self", "name", "path", "statement"] qual scope f cdv X.A.in1 X.stack s1 H1):=ZmJ S hhd ⟨e0.frames,e0.mod,e0.bs,e0.bsz,e0.funs,e0.frf,e0.hok,e0.bare⟩
   have rm:Room k (X.A.in1.deeper (envOfC qual scope s1.heap.objs.size f cdv)):=⟨hhd,by have:=hr.dp; show X.A.depth + 1 + 3 * k + 5 < _; omega,by have:=hr.un; show X.A.units + 1 + 3 + 16 * k + 200 < _; omega⟩
   have E:Zjk (Zng X.prog X.w X.K X.mg X.base ["self", "name", "path", "statement"] qual scope f cdv X.A.in1 X.stack s1 H1) c X.A C p1 p2 pr dx nl d s2.heap.objs.size s2.gens.size go H0 Pg :=
    ⟨St,D _ _ _ _ _ rm,rfl,T,nd,few,hgo,lt2,rfl⟩
   have en':Env0 X.prog X.w X.K X.mg X.base X.A X.stack (sn.setGen s2.gens.size .running) Hn:=⟨en.frames,en.mod,en.bs,en.bsz,en.funs,en.frf,en.hok,allBare_setGen en.bare rfl⟩
   have loc':ZnU (Zng X.prog X.w X.K X.mg X.base ["self", "name", "path", "statement"] qual scope f cdv X.A.in1 X.stack s1 H1) [some (.ref pr),none,none,none] (sn.setGen s2.gens.size .running):=by
    refine⟨mL,⟨oL,esL,epL,gL.1,edL,rL⟩,fun i nm vv e1 e2 e3=>?_⟩
    obtain⟨u',ru,lk'⟩:=hlook i nm vv e1 e2 e3
    refine⟨u',ru,?_⟩
    rcases lk' with lk' | ⟨_,cc,e,_⟩
    ·exact .inl lk'
    ·have e:(cellsFrom (s1.heap.objs.size + 1) scope.names []).lookup nm=some cc:=e
     rw[S.nc]at e
     cases e
   have In:SI (Zng X.prog X.w X.K X.mg X.base ["self", "name", "path", "statement"] qual scope f cdv X.A.in1 X.stack s1 H1) [some (.ref pr),none,none,none] Hn (sn.setGen s2.gens.size .running):=ZrV St en' loc' gL.2 rfl
   show SgX _ _ (.func c.b0 (envOfC qual scope s1.heap.objs.size f cdv)) _ [] _ _
   refine Zoh ?_
   rw[show execs c.b0 (envOfC qual scope s1.heap.objs.size f cdv)=execs [.For c.tg1 c.iter1 c.b1 [] c.p1] (envOfC qual scope s1.heap.objs.size f cdv)from rfl,execs_cons_wrap]
   refine Zm_ ?_ E.D.f1
   rw[show X.A.in1.over (.func c.b0 (envOfC qual scope s1.heap.objs.size f cdv)) []=X.A.in1.deeper (envOfC qual scope s1.heap.objs.size f cdv)from over_func]
   have rd:=ZmD (v1:=none) (v2:=none) (v3:=none) T q1
   refine wpAny_mono (Znb E.S In (E.D.i1 _ _) rd) (fun v s4 h4=>wpAny_mono h4 (fun itv s5 h5=>?_) fun _ _ z=>z) fun _ _ z=>z
   obtain⟨it1,fp1,tn1,J,H5,rfl,I5,l5,T1,t5,o5,dj,k5,rfl,rfl⟩:=h5
   intro q
   have nofp:s2.heap.objs.size∉fp1:=dj _ _ gG.1 lt2 gG.2 hgo.nc
   exact(ZlM E _ _ rfl _).1 0 it1 fp1 tn1 sn H5 s5 H5 _ q rfl rfl
    ⟨(Zku.setG St).trans St l5.e0,k5,I5,⟨_,_,_,rfl⟩,q1,T1,t5,o5,nofp,l5.ga E (by simp) gG,q4⟩
 exact main _ _ _ _ rfl rfl rfl fun h=>YM _ rfl
end M
namespace M
open PySem PySem.Spec PyProof.Rows L2 GenW
def Zho(C:YD)(o:Obj):HO:=.ext fun h=>h.get? C=some o
def unT(H:Hp)(C:YD):Hp:=fun b=>if b=C then none else H b
theorem ZcD{H:Hp}{C b:YD}(h:b≠C):unT H C b=H b:=by unfold unT; rw[if_neg h]
theorem Zj_{H:Hp}{C:YD}:unT H C C=none:=by unfold unT; rw[if_pos rfl]
theorem Zoi{H:Hp}{C:YD}{o:HO}(h:H C=some o):upd (unT H C) C o=H:=by
 funext b
 unfold upd unT
 by_cases e:b=C
 ·rw[if_pos e,e,h]
 ·rw[if_neg e,if_neg e]
theorem Zhp{α β : Type}{R S : α→β→Prop}(h:∀ a b,R a b→S a b):∀ {l:List α} {m:List β},Paired R l m→Paired S l m
 | _,_,.nil=>.nil
 | _,_,.cons r t=>.cons (h _ _ r) (Zhp h t)
theorem Zjl{P:YE}{w:YF}{H1 H2:Hp}{h:Heap}{a:YD}(ht:∀ q xs,H1 q=some (.tup xs)→H2 q=some (.tup xs))(ho:∀ q x,H1 q=some (.own x)→H2 q=some (.own x)):∀ {o:HO},ObjOk P w H1 h a o→ObjOk P w H2 h a o
 | .lst _,x=>x
 | .tup _,x=>x
 | .dK _,x=>x
 | .dT _,⟨x1,x2,xs,p,r⟩=>⟨x1,x2,xs,Zhp (fun _ _ ⟨q1,q2,q3⟩=>⟨q1,ht _ _ q2,q3⟩) p,r⟩
 | .set _ _,x=>x
 | .ins _ _ _,⟨x1,r⟩=>⟨ho _ _ x1,r⟩
 | .own _,x=>x
 | .xd _,x=>x
 | .rng _ _,x=>x
 | .frz _ _,⟨x1,x2⟩=>⟨x1,Zjl ht ho x2⟩
 | .tbl _,x=>x
 | .met _ _,x=>x
 | .ext _,x=>x
theorem ZkJ{P:YE}{w:YF}{H:Hp}{h:Heap}{a:YD}{o:HO}(x:ObjOk P w H h a o):∃ ob,h.get? a=some ob:=by
 cases o with
 | lst xs=>obtain⟨_,_,_,_,e⟩:=x; exact⟨_,e⟩
 | tup xs=>obtain⟨_,_,_,o,e,_⟩:=x; exact⟨_,e⟩
 | dK kvs=>obtain⟨_,_,_,_,o,_,_,e,_⟩:=x; exact⟨_,e⟩
 | dT kvs=>obtain⟨_,_,_,_,o,_,_,e,_⟩:=x; exact⟨_,e⟩
 | set S n=>obtain⟨o,_,_,_,e,_⟩:=x; exact⟨_,e⟩
 | ins C dx fs=>obtain⟨_,_,_,e,_⟩:=x; exact⟨_,e⟩
 | own y=>obtain⟨_,e⟩:=x; exact⟨_,e⟩
 | xd fs=>obtain⟨_,⟨_,_,_,e,_⟩,_⟩:=x; exact⟨_,e⟩
 | rng lo hi=>obtain⟨_,_,_,e⟩:=x; exact⟨_,e⟩
 | frz ob u=>obtain⟨e,_⟩:=x; exact⟨_,e⟩
 | tbl ps=>exact⟨_,show h.get? a=some _ from x⟩
 | met f y=>exact⟨_,show h.get? a=some _ from x⟩
 | ext φ=>exact x.2.1
theorem Zoj{P:YE}{w:YF}{H:Hp}{h:Heap}{C:YD}{o:Obj}(k:HOk P w H h)(n:H C=none)(e:h.get? C=some o):HOk P w (upd H C (Zho C o)) h:=by
 have ne:∀ {q:YD} {u:HO},H q=some u→q≠C:=fun {q u} hq z=>by rw[z,n]at hq; cases hq
 intro b u hb
 by_cases eb:b=C
 ·subst eb
  rw[Y8]at hb
  cases hb
  exact⟨e,⟨_,e⟩,fun h1 h2 p q=>q _ p⟩
 ·rw[upd_ne eb]at hb
  exact Zjl (fun q xs hq=>by rw[upd_ne (ne hq)]; exact hq) (fun q x hq=>by rw[upd_ne (ne hq)]; exact hq) (k b u hb)
theorem Zok{P:YE}{w:YF}{H:Hp}{h:Heap}{C:YD}{o:Obj}(k:HOk P w H h)(n:H C=some (Zho C o)):HOk P w (unT H C) h:=by
 intro b u hb
 have eb:b≠C:=fun z=>by rw[z,Zj_]at hb; cases hb
 rw[ZcD eb]at hb
 refine Zjl (fun q xs hq=>?_) (fun q x hq=>?_) (k b u hb)
 ·rw[ZcD fun z=>?_]; exact hq
  rw[z,n]at hq
  cases hq
 ·rw[ZcD fun z=>?_]; exact hq
  rw[z,n]at hq
  cases hq
theorem Zol{K:YA}{H:Hp}{C:YD}{o:Obj}(n:H C=some (Zho C o)){a:YD}{xs:List V}(h:SqT K H a xs):SqT K (unT H C) a xs:=by
 rcases h with(h | ⟨ob,h⟩) | h
 ·exact .inl (.inl (by rw[ZcD fun z=>by rw[z,n]at h; cases h]; exact h))
 ·exact .inl (.inr ⟨ob,by rw[ZcD fun z=>by rw[z,n]at h; cases h]; exact h⟩)
 ·exact .inr h
structure ZoD(X:Cx)(n0:Nat):Prop where
 pn:X.pn=[]
 ex:∀ b,n0 ≤ b→b < X.s_0.heap.objs.size→X.H_0 b=none→b∈X.ex
 cells:∀ x,X.env.cells.lookup x=none
 fs:∀ b∈X.fs,b < n0
 bse:∀ b o,X.base.get? b=some o→b≠X.env.locals
 fr:∀ b∈frs X.stack,b≠X.env.locals
structure ZoE(X:Cx)(n0:Nat)(H0:Hp)(F0:List YD)(a g:Nat)(zs:List PyData)(pG:List (YD×Obj))(σ:L2.St)(H:Hp)(s:YH):Prop where
 I:Inv X pG σ H s
 pg:Zmo a g n0 pG
 dom:∀ b,X.H_0 b≠none→H b≠none
 gs:∃ gs N o,s.gens[g]? = some gs∧s.heap.get? X.env.locals=some o∧N (upd H X.env.locals (Zho X.env.locals o))∧Zfy H0 F0 N∧ZnR X.prog X.w X.K X.mg X.base X.A X.stack n0 H0 F0 a g zs pG N gs
section
variable {X:Cx} {pG:List (YD×Obj)} {σ:L2.St} {H H0:Hp} {s:YH} {n0 g:Nat} {a:YD} {F0:List YD} {z:PyData} {zs:List PyData}
theorem Zka{H1:Hp}{C:YD}{o:Obj}(n:H C=none)(k:Za [] (upd H C (Zho C o)) H1):Za [] H (unT H1 C):=by
 have hC:H1 C=some (Zho C o):=k.obj _ _ Ya Y8
 have ne:∀ {q:YD} {u:HO},H q=some u→q≠C:=fun {q u} hq z=>by rw[z,n]at hq; cases hq
 refine⟨fun c u _ e=>?_,fun c xs e=>?_,fun c o' u e=>?_,fun c u e=>?_⟩
 ·rw[ZcD (ne e)]; exact k.obj c u Ya (by rw[upd_ne (ne e)]; exact e)
 ·rw[ZcD (ne e)]; exact k.tup c xs (by rw[upd_ne (ne e)]; exact e)
 ·rw[ZcD (ne e)]; exact k.frz c o' u (by rw[upd_ne (ne e)]; exact e)
 ·obtain⟨u',e'⟩:=k.dom c u (by rw[upd_ne (ne e)]; exact e)
  exact⟨u',by rw[ZcD (ne e)]; exact e'⟩
theorem ZlN{H1:Hp}{s1:YH}{o:Obj}(L:ZoD X n0)(I:Inv X pG σ H s)(dom:∀ b,X.H_0 b≠none→H b≠none)(ho:s.heap.get? X.env.locals=some o)(k:Za [] (upd H X.env.locals (Zho X.env.locals o)) H1)
  (bk:Bk X.prog X.w n0 X.stack s (upd H X.env.locals (Zho X.env.locals o)) s1 H1):Inv X [] σ (unT H1 X.env.locals) s1:=by
 obtain⟨ch,h1,u⟩:=bk.un
 have hn:H X.env.locals=none:=I.free
 have hC:H1 X.env.locals=some (Zho X.env.locals o):=k.obj _ _ Ya Y8
 have sC:s1.heap.get? X.env.locals=some o:=(bk.hok _ _ hC).1
 have ne:∀ {q:YD} {u:HO},H q=some u→q≠X.env.locals:=fun {q u} hq z=>by rw[z,hn]at hq; cases hq
 have I0:Inv X [] σ H s:=I.unpinned (pins:=[])
 classical
 refine I0.call' (ch:=ch.filter fun b=>decide (b≠X.env.locals∧H b=none)) bk.os ?_ (Zok bk.hok hC) bk.bare fun c hc=>?_
 ·have mem:∀ b,b∉ch.filter (fun b=>decide (b≠X.env.locals∧H b=none))→H b=none→b≠X.env.locals→b∉ch:=fun b hb h2 h3 z=>hb (List.mem_filter.mpr ⟨z,decide_eq_true ⟨h3,h2⟩⟩)
  refine⟨fun b ob e hb hf hx=>?_,fun b ob e hb hf hx=>?_,fun b ob e hb hx=>?_,fun b ob e hx=>?_,fun b xs e=>?_,fun b o' u' e=>?_,fun b ps e=>?_⟩
  ·by_cases eb:b=X.env.locals
   ·rw[eb]at e ⊢; rw[ho]at e; cases e; exact sC
   ·exact u.keep b ob e (by rw[upd_ne eb]; exact hb) hf (mem b hx hb eb)
  ·by_cases eb:b=X.env.locals
   ·exact(L.fr b hf eb).elim
   ·exact u.slot b ob e (by rw[upd_ne eb]; exact hb) hf (mem b hx hb eb)
  ·by_cases eb:b=X.env.locals
   ·rw[eb]; exact Zj_
   ·rw[ZcD eb]; exact u.free b ob e (by rw[upd_ne eb]; exact hb) (mem b hx hb eb)
  ·by_cases eb:b=X.env.locals
   ·rw[eb]; exact⟨_,sC⟩
   ·cases hb:H b with
    | none=>exact u.there b ob e (mem b hx hb eb)
    | some w' =>
      obtain⟨w2,e2⟩:=k.dom b w' (by rw[upd_ne eb]; exact hb)
      exact ZkJ (bk.hok b w2 e2)
  ·rw[ZcD (ne e)]; exact u.tups b xs (by rw[upd_ne (ne e)]; exact e)
  ·rw[ZcD (ne e)]; exact u.frzs b o' u' (by rw[upd_ne (ne e)]; exact e)
  ·obtain⟨more,e2⟩:=u.tbls b ps (by rw[upd_ne (ne e)]; exact e)
   exact⟨more,by rw[ZcD (ne e)]; exact e2⟩
 ·obtain⟨h2,h3⟩:=List.mem_filter.mp hc
  obtain⟨h4,h5⟩:=of_decide_eq_true h3
  refine⟨?_,h4,(fun x c' e=>by rw[L.cells]at e; cases e),(fun p hp=>by rw[L.pn]at hp; cases hp)⟩
  by_cases hl:X.s_0.heap.objs.size ≤ c
  ·exact .inr hl
  ·refine .inl (L.ex c (h1 c h2) (by omega) ?_)
   cases e:X.H_0 c with
   | none=>rfl
   | some w'=>exact absurd h5 (dom c (by rw[e]; exact fun z=>by cases z))
theorem Zqr{o:Obj}(L:ZoD X n0)(I:Inv X pG σ H s)(ho:s.heap.get? X.env.locals=some o):Env0 X.prog X.w X.K X.mg X.base X.A X.stack s (upd H X.env.locals (Zho X.env.locals o)):=by
 have e:=I.env0
 refine⟨e.frames,e.mod,fun b ob hb=>?_,e.bsz,e.funs,fun b hb=>?_,Zoj e.hok I.free ho,e.bare⟩
 ·obtain⟨h1,h2⟩:=e.bs b ob hb
  exact⟨h1,by rw[upd_ne (L.bse b ob hb)]; exact h2⟩
 ·rw[upd_ne (L.fr b hb)]; exact e.frf b hb
theorem Zqs{o:Obj}(I:Inv X pG σ H s):ZeH pG s (upd H X.env.locals (Zho X.env.locals o)):=fun p hp=>by
 obtain⟨h1,h2,h3,_⟩:=I.pin p (Yp _ hp)
 exact⟨h1,by rw[upd_ne h3]; exact h2⟩
theorem ZmL{H1:Hp}{s1:YH}{o:Obj}(L:ZoD X n0)(I:Inv X [] σ (unT H1 X.env.locals) s1)(hC:H1 X.env.locals=some (Zho X.env.locals o)){pG':List (YD×Obj)}(pg:Zmo a g n0 pG')(ok:ZeH pG' s1 H1):Inv X pG' σ (unT H1 X.env.locals) s1:=by
 refine I.pins_of fun p hp=>?_
 obtain⟨h1,h2⟩:=ok p hp
 obtain⟨h3,h4⟩:=pg.up p hp
 have ne:p.1≠X.env.locals:=fun z=>by rw[z,hC]at h2; cases h2
 exact⟨h1,by rw[ZcD ne]; exact h2,ne,fun z=>absurd (L.fs _ z) (Nat.not_lt.mpr h3),h4⟩
theorem ZlO{E:YG→YH→Prop}{Q:Option YG→YH→Prop}(hd:X.A.depth < recursionLimit)(hc:X.calm=true)(L:ZoD X n0)(x:ZoE X n0 H0 F0 a g (z :: zs) pG σ H s)
  (q:∀ v y H' pG' s',RelV y v→Im X.K H' y z→Za [] H H'→ZoE X n0 H0 F0 a g zs pG' σ H' s'→(∃ gs,s'.gens[g]? = some gs∧Slp gs)→Q (some v) s'):wpAny (model X.prog X.w) X.A (pyNext (.ref a)) Q E s:=by
 obtain⟨I,pg,dom,gs,N,o,hg,ho,hN,st,asl⟩:=x
 obtain⟨go,hgo,hq⟩:=pg.gen
 have ok:=Zqs (o:=o) I
 have hl:=Zlj hg
 refine Ziw (I.ok.hd hc) I.nolimit hd (hq.is (ok _ hgo).1) hg (asl s _ (Zqr L I ho) ok hN hl) (fun r s1 h=>?_) fun v b l k c p fs s1 hb hz h=>?_
 ·obtain⟨_,_,_,_,_,_,_,_,_,_,_,e,_⟩:=h
  cases e
 ·obtain⟨v',b',l',k',c',p',fs',y,H',pG',N',e,ry,iy,kk,bk,ok',pg',hN',st',asl'⟩:=h
  cases e
  have hC:H' X.env.locals=some (Zho X.env.locals o):=kk.obj _ _ Ya Y8
  have sC:s1.heap.get? X.env.locals=some o:=(bk.hok _ _ hC).1
  have k0:Za [] H (unT H' X.env.locals):=Zka I.free kk
  have I1:=ZlN L I dom ho kk bk
  have I2:Inv X pG' σ (unT H' X.env.locals) s1:=ZmL L I1 hC pg' ok'
  have iy':Im X.K (unT H' X.env.locals) y z:=Im.monoT (fun a xs h=>Zol hC h) iy
  refine q v y (unT H' X.env.locals) pG' _ ry iy' k0 ⟨Inv.gensOf I2 (allBare_setGen I2.bare hb),pg',fun b hb'=>?_,_,N',o,setGen_at (by omega),sC,by rw[Zoi hC]; exact hN',st',asl'⟩ ⟨_,setGen_at (by omega),trivial⟩
  cases e2:H b with
  | none=>exact absurd e2 (dom b hb')
  | some u =>
    obtain⟨u',e3⟩:=k0.dom b u e2
    rw[e3]; exact fun z=>by cases z
theorem ZlP{E:YG→YH→Prop}{Q:Option YG→YH→Prop}(hd:X.A.depth < recursionLimit)(hc:X.calm=true)(L:ZoD X n0)(x:ZoE X n0 H0 F0 a g [] pG σ H s)
  (q:∀ H' s',Za [] H H'→Inv X [] σ H' s'→Q none s'):wpAny (model X.prog X.w) X.A (pyNext (.ref a)) Q E s:=by
 obtain⟨I,pg,dom,gs,N,o,hg,ho,hN,st,asl⟩:=x
 obtain⟨go,hgo,hq⟩:=pg.gen
 have ok:=Zqs (o:=o) I
 have hl:=Zlj hg
 refine Ziw (I.ok.hd hc) I.nolimit hd (hq.is (ok _ hgo).1) hg (asl s _ (Zqr L I ho) ok hN hl) (fun r s1 h=>?_) fun v b l k c p fs s1 hb hz h=>?_
 ·obtain⟨e,H',kk,bk⟩:=h
  cases e
  refine⟨rfl,fun h' hk=>q (unT H' X.env.locals) _ (Zka I.free kk) ?_⟩
  have I1:=ZlN L I dom ho kk bk
  have I2:Inv X [] σ (unT H' X.env.locals) { s1 with heap:=h' }:=I1.kept (t':=s1.toks) hk
  exact Inv.gensOf (s:={ s1 with heap:=h' }) I2 (allBare_setGen I1.bare rfl)
 ·obtain⟨e,_⟩:=h
  cases e
end
end M
namespace M
open PySem PySem.Spec PySem.W PyProof.Rows L2 L2H SlX GenW
def Zqt(zs:List PyData)(F0:List YD)(K:YA)(g:TG)(tt:TT)(te:TE)(vs:List Nat)(σ:L2.St)(H:Hp)(Q:VK):Prop :=
 ∀ D,H D=none→∃ Pv:Nat→Hp→Prop,Pv 0 (upd H D (.lst [])) ∧
   (∀ i z x H1 H2,zs[i]? = some z→Pv i H1→Za [] H1 H2→Im K H2 x z→g x (wipe σ vs) H2 fun σ2 H3=>wipe σ2 vs=wipe σ vs∧tt σ2 H3 fun b H4 =>
    if b=true then te σ2 H4 fun y H5=>∃ acc,H5 D=some (.lst acc)∧acc.length < YK∧Za [D] H2 (upd H5 D (.lst (acc++[y])))∧Pv (i + 1) (upd H5 D (.lst (acc++[y])))else Za [D] H2 H4∧Pv (i + 1) H4) ∧
   (∀ H1 H2,Pv zs.length H1→Za [] H1 H2→Q (.ref D) H2)
def Zq2(K:YA)(wi:TIG)(g:TG)(tt:TT)(te:TE)(vs:List Nat):TE:=fun σ H Q=>wi σ H fun zs F0 H1=>Zqt zs F0 K g tt te vs σ H1 Q
theorem ZmM{H H':Hp}{C D:YD}{o o':Obj}(n:H C=none)(n':H' C=none)(nd:D≠C)(k:Za [D] H H'):Za [D,C] (upd H C (Zho C o)) (upd H' C (Zho C o')):=by
 refine⟨fun c u hc e=>?_,fun c xs e=>?_,fun c o' u e=>?_,fun c u e=>?_⟩
 ·simp only[Yn,Ya,or_false,not_or]at hc
  rw[upd_ne hc.2]at e ⊢
  exact k.obj c u (by simpa using hc.1) e
 ·by_cases ec:c=C
  ·rw[ec,Y8]at e; cases e
  ·rw[upd_ne ec]at e ⊢; exact k.tup c xs e
 ·by_cases ec:c=C
  ·rw[ec,Y8]at e; cases e
  ·rw[upd_ne ec]at e ⊢; exact k.frz c o' u e
 ·by_cases ec:c=C
  ·exact⟨_,by rw[ec]; exact Y8⟩
  ·rw[upd_ne ec]at e
   obtain⟨u',e'⟩:=k.dom c u e
   exact⟨u',by rw[upd_ne ec]; exact e'⟩
theorem ZmN{X:Cx}{pins:List (YD×Obj)}{s:YH}{σ:L2.St}{H:Hp}{Q:VK}{elt tg iter:Expr}{ifs:List Expr}{scope:Scope}{own:List (Str×Nat)}{pos pos':Pos}{wi:TIG}{g:TG}{tt:TT}{te:TE}{use:Option (YG→Sem Unit)}{Qf:YG→YH→Prop}
  (hx:∀ e s',¬ X.xe e s') (hd:X.A.depth < recursionLimit) (hc:X.calm=true) (hN:X.N.Nodup) (I:Inv X pins σ H s) (hi:PIF X iter wi) (ok:BlkOk X.N X.env.scope scope own) (hcl:∀ n,cellsFrom n scope.names (cloFrom X.env.cells scope.names [])=[])
  (hg:∀ (s:YH) (H:Hp) (C:YD) (cl:List (Str×YD)) (fp:List YD),PG (X.blk s H scope (compEnvC scope cl C X.env) fp) tg g) (ht:∀ (s:YH) (H:Hp) (C:YD) (cl:List (Str×YD)) (fp:List YD),PTs (X.blk s H scope (compEnvC scope cl C X.env) fp) ifs tt)
  (he:∀ (s:YH) (H:Hp) (C:YD) (cl:List (Str×YD)) (fp:List YD),PE (X.blk s H scope (compEnvC scope cl C X.env) fp) elt te) (hs:∀ x,foldedSetIterable iter X.env x=pure x)
  (h:Zq2 X.K wi g tt te (own.map (·.2)) σ H Q)
  (hRR:∀ D C s' m H',Inv X pins σ H' s'→Q (.ref D) H'→s'.heap.Ns C m→FpOk X pins H' C→compPost (model X.prog X.w) X.A X.xe use Qf (.ref D) C (.ok .next) s') :
  wpAny (model X.prog X.w) X.A (comprehension (.ListComp elt [⟨tg,iter,ifs,0⟩] scope pos) scope X.env pos' (newList []) false (eval iter X.env) use) Qf X.xe s:=by
 have hfree:∀ y∈scope.names,y.2 = .free→∃ c,X.env.cells.lookup y.1=some c:=fun y hy e=>by
  rcases ok.free y hy e with k | k
  ·exact I.ok.has _ (.inl k)
  ·exact I.ok.has _ (.inr k)
 refine wpAny_comprehension_free (use:=use) rfl hs (closure_ok hfree) ok.kind (fun y hy e=>by rw[ok.uniq y hy,e])
  (thn (hi.run pins s σ H _ I h) fun xv s1 hx=>?_)
 obtain⟨a,gn,n0,zs,F0,H1,pG,gs,rfl,hq,L,I1,pg,hgs,alive,asl⟩:=hx
 obtain⟨go,hgo,gO⟩:=pg.gen
 refine wpAny_pyIter_gen (gO.is (ZhJ I1 _ hgo).1) ?_
 refine wpAny_newObj_type (newEnv_comp ?_) (by show 0 ≤ YK; decide)
 generalize hD:s1.heap.objs.size=D
 have hDn:H1 D=none:=I1.hok.fresh (Nat.le_of_eq hD)
 obtain⟨Pv,p0,step,fin⟩:=hq D hDn
 have I2:Inv X pins σ H1 s1:=Inv.pnOnly I1 fun p hp=>Yo _ hp
 generalize hs3:({ s1 with heap:=s1.heap.push { cls:=.type "list",data:=.seq ([]:List YG).toArray } }:YH)=s3
 have I3:Inv X pins σ (upd H1 D (.lst [])) s3:=by
  rw[← hs3]
  refine I2.laid (t':=s1.toks) (fun b o e=>YL _ e) (Nat.le_of_eq hD) ⟨YP _,[],0,.nil,?_⟩
  rw[← hD]
  exact YM _ rfl
 have h3:s3.heap=s1.heap.push { cls:=.type "list",data:=.seq ([]:List YG).toArray }:=by rw[← hs3]
 have sz3:s3.heap.objs.size=s1.heap.objs.size + 1:=by rw[h3,Heap.size_push]
 have g3:s3.gens=s1.gens:=by rw[← hs3]
 classical
 generalize hfp:(List.range s3.heap.objs.size).filter (fun b=>decide (n0 ≤ b∧(upd H1 D (.lst [])) b=none))=fp
 have mfp:∀ b,b∈fp↔b < s3.heap.objs.size∧n0 ≤ b∧(upd H1 D (.lst [])) b=none:=fun b=>by
  rw[← hfp,List.mem_filter,List.mem_range,decide_eq_true_eq]
 have lowf:=Zlk L I2
 have f3:∀ b∈fp,FpOk X pins (upd H1 D (.lst [])) b∧b < s3.heap.objs.size:=fun b hb=>by
  obtain⟨h1,h2,h4⟩:=(mfp b).mp hb
  have no:∀ {d:YD},d < n0→d≠b:=fun {d} h e=>absurd (Nat.lt_of_lt_of_le (by rw[← e]; exact h) h2) (Nat.lt_irrefl _)
  exact⟨⟨h4,fun e=>no L.loc e.symm,fun e=>no (lowf b e) rfl,.inr (Nat.le_trans L.s0 h2),fun x c e=>no (L.cell x c e),fun p hp=>no (L.pin p hp)⟩,h1⟩
 have I4:=block_start I3 ok hN f3
 have pgg:=hg s3 (upd H1 D (.lst [])) s3.heap.objs.size (cellsFrom (s3.heap.objs.size + 1) scope.names (cloFrom X.env.cells scope.names [])) fp
 have pt:=ht s3 (upd H1 D (.lst [])) s3.heap.objs.size (cellsFrom (s3.heap.objs.size + 1) scope.names (cloFrom X.env.cells scope.names [])) fp
 have pe:=he s3 (upd H1 D (.lst [])) s3.heap.objs.size (cellsFrom (s3.heap.objs.size + 1) scope.names (cloFrom X.env.cells scope.names [])) fp
 show codeAny _ _ (.compStart (.ListComp elt [⟨tg,iter,ifs,0⟩] scope pos) 0 (.ref a) (.ref D) (compEnvC scope (cellsFrom (s3.heap.objs.size + 1) scope.names (cloFrom X.env.cells scope.names [])) s3.heap.objs.size X.env)) (compPost (model X.prog X.w) X.A X.xe use Qf (.ref D) s3.heap.objs.size) { s3 with heap:=pushCells (s3.heap.push { cls:=.type "dict",data:=.dict #[] }) scope.names }
 generalize hce:compEnvC scope (cellsFrom (s3.heap.objs.size + 1) scope.names (cloFrom X.env.cells scope.names [])) s3.heap.objs.size X.env=ce at I4 pgg pt pe ⊢
 have cL:ce.locals=s3.heap.objs.size:=by subst hce; rfl
 have cC:ce.cells=[]:=by subst hce; exact hcl _
 generalize hH3:upd H1 D (.lst [])=H3 at I3 I4 pgg pt pe p0 f3 mfp
 generalize hs4:({ s3 with heap:=pushCells (s3.heap.push { cls:=.type "dict",data:=.dict #[] }) scope.names }:YH)=s4 at I4 ⊢
 have g4:s4.gens=s1.gens:=by rw[← hs4,← g3]
 have k13:Za [] H1 H3:=by rw[← hH3]; exact Za.new hDn
 have kp4:∀ b o,s1.heap.get? b=some o→s4.heap.get? b=some o:=fun b o e=>by
  rw[← hs4]
  refine pushCells_keeps _ _ _ _ (YL _ ?_)
  rw[h3]; exact YL _ e
 have n0s:n0 ≤ s1.heap.objs.size:=by
  have h1:=(pg.up _ hgo).1
  have h2:=Heap.lt_size (ZhJ I1 _ hgo).1
  exact Nat.le_of_lt (Nat.lt_of_le_of_lt h1 h2)
 have stk:∀ b∈frs X.stack,b < n0:=fun b hb=>by
  rcases Yn.mp (I2.stkSub b hb)with e | e
  ·rw[e]; exact L.loc
  ·exact lowf b e
 have LB:ZoD (X.blk s3 H3 scope ce fp) n0:=by
  refine⟨rfl,fun b h1 h2 h4=>(mfp b).mpr ⟨h2,h1,h4⟩,fun x=>by show ce.cells.lookup x=none; rw[cC]; rfl,fun b hb=>?_,fun b o e z=>?_,fun b hb z=>?_⟩
  ·exact stk b hb
  ·have e2:=(I2.bs b o e).1
   have:=Heap.lt_size e2
   have z:b=ce.locals:=z
   rw[cL,sz3]at z
   exact absurd this (by rw[z]; exact Nat.not_lt.mpr (Nat.le_succ _))
  ·have z:b=ce.locals:=z
   have:=Nat.lt_of_lt_of_le (stk b hb) n0s
   rw[cL,sz3]at z
   exact absurd this (by rw[z]; exact Nat.not_lt.mpr (Nat.le_succ _))
 have I5:Inv (X.blk s3 H3 scope ce fp) pG (wipe σ (own.map (·.2))) H3 s4:=by
  refine I4.pins_of fun p hp=>?_
  obtain⟨h1,h2⟩:=ZhJ I1 p hp
  obtain⟨h4,h5⟩:=pg.up p hp
  have hl:=Heap.lt_size h1
  refine⟨kp4 _ _ h1,?_,fun z=>?_,fun z=>?_,h5⟩
  ·rw[← hH3,upd_ne (by rw[← hD]; exact YQ hl)]; exact h2
  ·have z:p.1=ce.locals:=z
   rw[cL,sz3]at z
   exact absurd hl (by rw[z]; exact Nat.not_lt.mpr (Nat.le_succ _))
  ·exact absurd (stk _ z) (Nat.not_lt.mpr h4)
 obtain⟨o0,ho0⟩:∃ o,s4.heap.get? ce.locals=some o:=by
  obtain⟨m,⟨o,_,_,e,_⟩,_⟩:=I4.loc
  exact⟨o,e⟩
 have hC3:H3 ce.locals=none:=I4.free
 have nDC:D≠ce.locals:=fun z=>by rw[← z,← hH3,Y8]at hC3; cases hC3
 obtain⟨N0,n0',st0,as0⟩:=asl (upd H3 ce.locals (Zho ce.locals o0)) (k13.trans (Za.new hC3))
 have F0ne:∀ b∈F0,b≠D∧b≠ce.locals:=fun b hb=>by
  refine⟨fun z=>alive b hb (by rw[z]; exact hDn),fun z=>?_⟩
  cases e:H1 b with
  | none=>exact alive b hb e
  | some u =>
    obtain⟨u',e'⟩:=k13.dom b u e
    rw[z,hC3]at e'
    cases e'
 have dcd:∀ b∈[D,ce.locals],b∉F0∧(upd H3 ce.locals (Zho ce.locals o0)) b≠none:=fun b hb=>by
  simp only[Yn,Ya,or_false]at hb
  rcases hb with rfl | rfl
  ·refine⟨fun z=>(F0ne _ z).1 rfl,?_⟩
   rw[upd_ne nDC,← hH3,Y8]
   exact fun z=>by cases z
  ·refine⟨fun z=>(F0ne _ z).2 rfl,?_⟩
   rw[Y8]
   exact fun z=>by cases z
 have hxb:∀ e s',¬ (X.blk s3 H3 scope ce fp).xe e s':=fun e s' z=>z
 have S0:ZoE (X.blk s3 H3 scope ce fp) n0 (upd H3 ce.locals (Zho ce.locals o0)) F0 a gn (zs.drop 0) pG (wipe σ (own.map (·.2))) H3 s4 :=
  ⟨I5,pg,fun b h=>h,gs,N0,o0,by rw[g4]; exact hgs,ho0,n0',st0,as0⟩
 have loop:codeAny (model X.prog X.w) X.A (.compLoop (.ListComp elt [⟨tg,iter,ifs,0⟩] scope pos) 0 (.ref a) (.ref D) ce) (compPost (model X.prog X.w) X.A X.xe use Qf (.ref D) s3.heap.objs.size) s4:=by
  refine compLoop_any (fun n s'=>∃ i H' pG',n=zs.length - i∧i ≤ zs.length∧ZoE (X.blk s3 H3 scope ce fp) n0 (upd H3 ce.locals (Zho ce.locals o0)) F0 a gn (zs.drop i) pG' (wipe σ (own.map (·.2))) H' s'∧Pv i H') ?_ zs.length ⟨0,H3,pG,rfl,YP _,S0,p0⟩
  rintro n s5 ⟨i,H5,pG5,rfl,hi5,x5,p5⟩
  by_cases hlt:i < zs.length
  ·have e:zs.drop i=zs[i] :: zs.drop (i + 1):=(List.getElem_cons_drop hlt).symm
   rw[e]at x5
   have hz:zs[i]? = some zs[i]:=Yw hlt
   refine ZlO (X:=X.blk s3 H3 scope ce fp) hd hc LB x5 fun u y H6 pG6 s6 ry iy kk x6 sl=>?_
   obtain⟨go6,hgo6,hq6⟩:=x6.pg.gen
   have e6:s6.heap.get? a=some go6:=(x6.I.pin _ (Yp _ hgo6)).1
   obtain⟨q1,⟨nm,qn,q2⟩,q3⟩:=hq6
   refine go_of e6 q1 q2 (by decide +kernel) ?_
   have body:=step i zs[i] y H5 H6 hz p5 kk iy
   obtain⟨gs6,hgs6,hsl⟩:=sl
   obtain⟨gs',N,o6,hgs',ho6,hN,st,asl6⟩:=x6.gs
   rw[hgs6]at hgs'
   cases hgs'
   have Ib:Inv (X.blk s3 H3 scope ce fp) ([]++pG6) (wipe σ (own.map (·.2))) H6 s6:=x6.I
   refine wpAny_mono (ZdY (X:=X.blk s3 H3 scope ce fp) hxb Ib ⟨gs6,hgs6,hsl⟩ fun t I7=>pgg.run _ t _ H6 y u _ I7 ry body) (fun _ s8 h8=>?_) fun e s' z=>(hxb e s' z).elim
   obtain⟨g8,t8,un8,σ8,H8,I8t,hw8,q8⟩:=h8
   have I8:=un8 _ _ _ I8t
   have hg8:=g8 gs6 hgs6
   refine wpAny_mono (ZdY (X:=X.blk s3 H3 scope ce fp) hxb I8 ⟨gs6,hg8,hsl⟩ fun t I=>pt.run _ t σ8 H8 _ I q8) (fun b s9 h9=>?_) fun e s' z=>(hxb e s' z).elim
   obtain⟨g9,t9,un9,H9,I9t,q9⟩:=h9
   have I9:=un9 _ _ _ I9t
   have hg9:=g9 gs6 hg8
   have again:∀ {H':Hp} {s':YH},Inv (X.blk s3 H3 scope ce fp) ([]++pG6) σ8 H' s'→s'.gens[gn]? = some gs6→Za [D] H6 H'→Pv (i + 1) H'→∃ m,m < zs.length - i∧∃ j H'' pG',m=zs.length - j∧j ≤ zs.length∧ZoE (X.blk s3 H3 scope ce fp) n0 (upd H3 ce.locals (Zho ce.locals o0)) F0 a gn (zs.drop j) pG' (wipe σ (own.map (·.2))) H'' s'∧Pv j H'':=fun {H' s'} I' hg' k' p'=>by
    have hl:(wipe σ (own.map (·.2))).length = σ8.length:=by rw[← hw8,wipe_length]
    have Iw:Inv (X.blk s3 H3 scope ce fp) pG6 (wipe σ (own.map (·.2))) H' s':=I'.weak hl fun j v e=>by
     rw[← hw8]at e
     exact(wipe_some e).1
    obtain⟨o',ho'⟩:∃ o,s'.heap.get? ce.locals=some o:=by
     obtain⟨m,⟨o,_,_,e,_⟩,_⟩:=I'.loc
     exact⟨o,e⟩
    refine⟨zs.length - (i + 1),by omega,i + 1,H',pG6,rfl,hlt,⟨Iw,x6.pg,fun b hb=>?_,gs6,N,o',hg',ho',?_,st,asl6⟩,p'⟩
    ·have:=x6.dom b hb
     cases e2:H6 b with
     | none=>exact absurd e2 this
     | some u =>
       obtain⟨u',e3⟩:=k'.dom b u e2
       rw[e3]; exact fun z=>by cases z
    ·refine st _ _ [D,ce.locals] hN (ZmM (C:=ce.locals) x6.I.free Iw.free nDC k') dcd
   cases b with
   | false =>
     simp only[Bool.false_eq_true,if_false]at q9 ⊢
     exact again I9 hg9 q9.1 q9.2
   | true =>
     simp only[if_true]at q9 ⊢
     refine wpAny_mono (ZdY (X:=X.blk s3 H3 scope ce fp) hxb I9 ⟨gs6,hg9,hsl⟩ fun t I=>pe.run _ t σ8 H9 _ I q9) (fun z s10 h10=>?_) fun e s' z=>(hxb e s' z).elim
     obtain⟨g10,t10,un10,yv,H10,I10t,r10,acc,hD10,hz10,kD,pD⟩:=h10
     have I10:=un10 _ _ _ I10t
     have hg10:=g10 gs6 hg9
     refine wpAny_mono (ZdY (X:=X.blk s3 H3 scope ce fp) hxb I10 ⟨gs6,hg10,hsl⟩ fun t I=>app_ok (E:=(X.blk s3 H3 scope ce fp).xe) (Q:=fun _ s'=>Inv (X.blk s3 H3 scope ce fp) ([]++pG6) σ8 (upd H10 D (.lst (acc++[yv]))) s') I hD10 hz10 r10 fun s11 I11=>I11) (fun _ s11 h11=>?_) fun e s' z=>(hxb e s' z).elim
     obtain⟨g11,t11,un11,I11t⟩:=h11
     exact again (un11 _ _ _ I11t) (g11 gs6 hg10) kD pD
  ·have e:i=zs.length:=by omega
   subst e
   rw[List.drop_length]at x5
   refine ZlP (X:=X.blk s3 H3 scope ce fp) hd hc LB x5 fun H6 s6 kk I6=>?_
   have I7:Inv X pins σ H6 s6:=I3.call' (ch:=fp) I6.os I6.base I6.hok I6.bare fun b hb=>⟨(f3 b hb).1.2.2.2.1,(f3 b hb).1.2.1,(f3 b hb).1.2.2.2.2.1,(f3 b hb).1.2.2.2.2.2⟩
   have nC:H6 s3.heap.objs.size=none:=by
    have z:H6 ce.locals=none:=I6.free
    rw[cL]at z
    exact z
   obtain⟨m,hn,_⟩:=I6.loc
   have hn:s6.heap.Ns ce.locals m:=hn
   rw[cL]at hn
   exact hRR D s3.heap.objs.size s6 m H6 I7 (fin H5 H6 p5 kk) hn (I3.fpOk (YO _) nC)
 exact codeAny_compStart_list loop (wpAny_pyIter_gen (gO.is (kp4 _ _ (ZhJ I1 _ hgo).1)) loop)
theorem ZlQ{X:Cx}{i:Nat}{y:Str}{py:Pos}{elt tg iter:Expr}{ifs:List Expr}{scope:Scope}{own:List (Str×Nat)}{pos spos:Pos}{wi:TIG}{g:TG}{tt:TT}{te:TE}(hx:∀ e s',¬ X.xe e s')(hd:X.A.depth < recursionLimit)(hc:X.calm=true)(hN:X.N.Nodup)(hy:X.N[i]? = some y)(hyl:X.env.scope.names.lookup y=some .local)
  (hsw:swapsWith (.ListComp elt [⟨tg,iter,ifs,0⟩] scope pos) (some (.Name y py)) spos.line X.env=pure true) (hi:PIF X iter wi) (ok:BlkOk X.N X.env.scope scope own) (hcl:∀ n,cellsFrom n scope.names (cloFrom X.env.cells scope.names [])=[])
  (hg:∀ (s:YH) (H:Hp) (C:YD) (cl:List (Str×YD)) (fp:List YD),PG (X.blk s H scope (compEnvC scope cl C X.env) fp) tg g) (ht:∀ (s:YH) (H:Hp) (C:YD) (cl:List (Str×YD)) (fp:List YD),PTs (X.blk s H scope (compEnvC scope cl C X.env) fp) ifs tt)
  (he:∀ (s:YH) (H:Hp) (C:YD) (cl:List (Str×YD)) (fp:List YD),PE (X.blk s H scope (compEnvC scope cl C X.env) fp) elt te) (hs:∀ x,foldedSetIterable iter X.env x=pure x:=by intro _; rfl) :
  PS X (.Assign [.Name y py] (.ListComp elt [⟨tg,iter,ifs,0⟩] scope pos) spos) (Xk (Zq2 X.K wi g tt te (own.map (·.2))) (Y4 i)):=by
 refine⟨fun pins s σ H D I h=>?_⟩
 rw[exec_Assign_Name_used _ _ _ _ hsw]
 refine YB (wpAny_standAt (YB ?_))
 show wpAny _ X.A (do let _ ← comprehension (.ListComp elt [⟨tg,iter,ifs,0⟩] scope pos) scope X.env (firstIterPos [⟨tg,iter,ifs,0⟩] pos) (newList []) false (eval iter X.env) (some (assign (.Name y py) X.env))) _ _ s
 have h:Zq2 X.K wi g tt te (own.map (·.2)) σ H (fun x H1=>Y4 i x σ H1 D.nx):=h
 refine YB (thn (ZmN (Qf:=fun _ s'=>SP X pins D .next s') hx hd hc hN I hi ok hcl hg ht he hs h fun L C s' m H' I' q hn f=>?_) fun _ s' hq=>YJ (YJ hq))
 show wpAny _ _ (assign (.Name y py) X.env (.ref L)) _ _ _
 refine wpAny_assign_Name (store_ok2 (v:=V.ref L) I' hN hy (.inl hyl) rfl (fun s2 I2 ⟨a,sb,ha⟩=>?_) (.inr hyl))
 obtain⟨f0,f1,f2,f3,f4,f5⟩:=f
 have haC:C≠a:=by
  rcases ha with z | z
  ·rw[z]; exact f1
  ·exact fun e=>f4 y a z e.symm
 refine⟨m,hn.sameBut sb haC,fun h3 sb3=>?_⟩
 exact⟨_,H',I2.turned (t':=s2.toks) (fun b o hb e=>(sb3.2 b hb).trans e) f0 f1 f3 f4 f5,q⟩
structure Zkb(P:YE)(w:YF)(K:YA)(mg:Str→Option YG)(base:Heap)(k:Nat)(C:YD):Prop where
 ex:∃ (p1 p2 f:YD) (fd:YC) (params:Arguments) (scope:Scope) (qual:Str) (c:ZcL),Zd9 K C p1 p2∧Meth K C "each_statement" f∧FunD K "each_statement" qual params c.b0 scope [] [] f fd∧Zq1 ["self", "name", "path", "statement"] ["self"] scope ∧
  Binds K fd ["self"] []∧∀ (cdv:YG) (A:Around) (outer:List Env) (s:YH) (H:Hp),Room k (A.deeper (envOfC qual scope s.heap.objs.size f cdv))→ZmA (Zng P w K mg base ["self", "name", "path", "statement"] qual scope f cdv A outer s H) c
theorem Zsf{X:Cx}{o:Expr}{te:TE}{C:YD}{apos pos:Pos}{k j:Nat}{pl:Sem Bool}(E:Zkb X.prog X.w X.K X.mg X.base k C)(hr:Room j X.A)(hk:k + 1 ≤ j)(hx:∀ e s',¬ X.xe e s')(hc:X.calm=true)(he:PE X o te)
  (ht:eval (.Call (.Attribute o "each_statement" apos) [] [] pos) X.env=(do
   let ov ← eval o X.env
   standAt apos.atName
   let (f,first) ← holding [ov] (getMethod ov "each_statement" pl)
   callWith pos f first (backTo pos (starEach [] X.env)) (backToKw pos (keywordEach [] X.env))):=by rfl) :
  PIF X (.Call (.Attribute o "each_statement" apos) [] [] pos) (ZmI X.K C te):=by
 obtain⟨p1,p2,f,fd,params,scope,qual,c,T,hm,F,S,hb,D⟩:=E.ex
 exact ZmK (pl:=pl) hx hc he T hm F S hb (hr.mono hk) D ht
end M
namespace M
open PySem L2 L2H SlX
def flatV:V→Bool
 | .non=>true
 | .bl _=>true
 | .int _=>true
 | .str _=>true
 | _=>false
def Eq2(K:YA)(H:Hp)(x y:V):Prop:=∃ d,Im K H x d∧Im K H y d∧SeqAt.shaped d=true∧PyData.eqv d d=true
def Alk(K:YA)(H:Hp):Nat→V→V→Prop
 | 0=>fun _ _=>False
 | n + 1=>fun x y=>(x=y∧flatV x=true) ∨
     (∃ a b xs ys,x = .ref a∧y = .ref b∧SqT K H a xs∧SqT K H b ys∧xs.length=ys.length∧xs.length ≤ 1000000∧∀ (i:Nat) u v,xs[i]? = some u→ys[i]? = some v→Alk K H n u v) ∨
     (∃ a b xs ys,x = .ref a∧y = .ref b∧H a=some (.lst xs)∧H b=some (.lst ys)∧xs.length=ys.length∧xs.length ≤ 1000000∧∀ (i:Nat) u v,xs[i]? = some u→ys[i]? = some v→Alk K H n u v) ∨
     (∃ a b ks ls,x = .ref a∧y = .ref b∧H a=some (.dK ks)∧H b=some (.dK ls)∧ks.map (·.1)=ls.map (·.1)∧ks.length ≤ 1000000∧2 ≤ n∧∀ p∈ks,∃ u,valV ls p.1=some u∧Eq2 K H p.2 u)
section
variable {K:YA} {H H':Hp} {Q:VK}
theorem Alk.k0(k:Za [] H H'):∀ {n:Nat} {x y:V},Alk K H n x y→Alk K H' n x y
 | 0,_,_,h=>h
 | n + 1,x,y,h=>by
   rcases h with h | ⟨a,b,xs,ys,e1,e2,h1,h2,h3,h4,h5⟩ | ⟨a,b,xs,ys,e1,e2,h1,h2,h3,h4,h5⟩ | ⟨a,b,ks,ls,e1,e2,h1,h2,h3,h4,h5,h6⟩
   ·exact .inl h
   ·exact .inr (.inl ⟨a,b,xs,ys,e1,e2,k.sqT h1,k.sqT h2,h3,h4,fun i u v z1 z2=>Alk.k0 k (h5 i u v z1 z2)⟩)
   ·exact .inr (.inr (.inl ⟨a,b,xs,ys,e1,e2,k.obj _ _ Ya h1,k.obj _ _ Ya h2,h3,h4,fun i u v z1 z2=>Alk.k0 k (h5 i u v z1 z2)⟩))
   ·refine .inr (.inr (.inr ⟨a,b,ks,ls,e1,e2,k.obj _ _ Ya h1,k.obj _ _ Ya h2,h3,h4,h5,fun p hp=>?_⟩))
    obtain⟨u,z1,d,z2,z3,z4⟩:=h6 p hp
    exact⟨u,z1,d,z2.mono k,z3.mono k,z4⟩
def Wid:Nat→PyData→Prop
 | 0,_=>True
 | n + 1,d=>∀ ds,d = .tuple ds→ds.length ≤ 1000000∧∀ e∈ds,Wid n e
theorem ZiO:∀ {ds:List PyData} {e:PyData},e∈ds→e.depth ≤ PyData.depthAll ds
 | [],_,h=>by cases h
 | d :: r,e,h=>by
   simp only[PyData.depthAll]
   rcases Yn.mp h with rfl | h
   ·omega
   ·have:=ZiO h; omega
theorem ZlR:∀ (n:Nat) {d:PyData} {x y:V},Im K H x d→Im K H y d→d.depth < n→Wid n d→Alk K H n x y
 | 0,_,_,_,_,_,h,_=>absurd h (Nat.not_lt_zero _)
 | n + 1,d,x,y,ix,iy,h,w=>by
   cases ix with
   | non=>cases iy; exact .inl ⟨rfl,rfl⟩
   | bl b=>cases iy; exact .inl ⟨rfl,rfl⟩
   | int i=>cases iy; exact .inl ⟨rfl,rfl⟩
   | str z=>cases iy; exact .inl ⟨rfl,rfl⟩
   | tup s al =>
     cases iy with
     | tup s' al' =>
       obtain⟨w1,w2⟩:=w _ rfl
       refine .inr (.inl ⟨_,_,_,_,rfl,rfl,s,s',by rw[al.length,al'.length],by rw[al.length]; exact w1,fun i u v e1 e2=>?_⟩)
       obtain⟨d1,g1,j1⟩:=al.get e1
       obtain⟨d2,g2,j2⟩:=al'.get e2
       rw[g1]at g2
       cases g2
       have m:=Yj g1
       have:=ZiO m
       simp only[PyData.depth]at h
       exact ZlR n j1 j2 (by omega) (w2 _ m)
theorem Zf0{x:V}{p:YD}{t:String}{b:Bool}(g:H p=some (.tup [.ty "tuple",.ty "list"])) (ty:TyX K H x (.type t)) (k:PySem.W.kitAny K (.type t) [.type "tuple",.type "list"]=some b) (q:Q (.bl b) H):rIsiT K [x,.ref p] H Q :=
 ⟨x,p,_,.type t,[.type "tuple",.type "list"],b,rfl,g,.cons (.ty "tuple") (.cons (.ty "list") .nil),ty,k,q⟩
theorem ZiP{a b:Bool}(q:Q (.bl (a == b)) H):ZbH K (.bl a) (.bl b) H Q:=by
 refine Zma (Im.bl a).dp (Im.bl b).dp (by rfl) (by rfl) ?_
 cases a <;> cases b <;> exact q
theorem ZlS{a b:Bool}(q:Q (.bl (a != b)) H):Zie K (.bl a) (.bl b) H Q:=by
 refine Zpq (Im.bl a).dp (Im.bl b).dp (by rfl) (by rfl) ?_
 cases a <;> cases b <;> exact q
end
def Zy(K:YA)(n:Nat):Sp:=fun vs H Q _=>∃ x y,vs=[x,y]∧Alk K H n x y∧∀ H',Za [] H H'→Q (.bl true) H'
def Zc7(K:YA)(sp:Sp):TS:=(Y9 (Xi (tB (tCB (rIsi K) (YT (YS 1) (YT (tC (.ty "dict")) YZ)))) (Xh (tAndV (tCB (rIsi K) (YT (YS 0) (YT (tC (.ty "dict")) YZ))) (tAndV (Xm sp [] E0 (YT (tCB rListD (YT (YS 0) YZ)) (YT (tCB rListD (YT (YS 1) YZ)) YZ))) (tOp (ZqX K) (YS 0) (YS 1))))) Xo)
 (Y9 (Xi (tB (tCB (rIsiT K) (YT (YS 1) (YT (Zfn (YT (tC (.ty "tuple")) (YT (tC (.ty "list")) YZ))) YZ)))) (Y9 (Xi (tOr (tNot (tB (tCB (rIsiT K) (YT (YS 0) (YT (Zfn (YT (tC (.ty "tuple")) (YT (tC (.ty "list")) YZ))) YZ))))) (Xc (tOp (Zie K) (tCB (rIsi K) (YT (YS 0) (YT (tC (.ty "list")) YZ))) (tCB (rIsi K) (YT (YS 1) (YT (tC (.ty "list")) YZ)))))) (Xh (tC (.bl false))) Xo)
 (Y9 (Xi (Xc (tOp (Zie K) (tCB (rLen K) (YT (YS 0) YZ)) (tCB (rLen K) (YT (YS 1) YZ)))) (Xh (tC (.bl false))) Xo)
 (Xh (tOp (ZbH K) (tLc (iRng1 (YT (tCB (rLen K) (YT (YS 1) YZ)) YZ)) (Y4 2) (tNot (tB (Xm sp [] E0 (YT (tOp (rIx K) (YS 0) (YS 2)) (YT (tOp (rIx K) (YS 1) (YS 2)) YZ))))) (YS 2) [2]) (Zbo YZ))))) Xo)
 (Y9 (Xi (tOr (Xc (tOp rIsN (YS 1) (tC .non))) (tB (tCB (rIsi K) (YT (YS 1) (YT (tC (.ty "str")) YZ))))) (Xh (tAndV (tOp (ZqX K) (YS 0) (YS 1)) (tOp (ZbH K) (tCB (rIsi K) (YT (YS 0) (YT (tC (.ty "str")) YZ))) (tCB (rIsi K) (YT (YS 1) (YT (tC (.ty "str")) YZ)))))) Xo)
 (Xh (tAndV (tCB (rIsi K) (YT (YS 0) (YT (tC (.ty "int")) YZ))) (tAndV (tOp (ZbH K) (tCB (rIsi K) (YT (YS 0) (YT (tC (.ty "bool")) YZ))) (tCB (rIsi K) (YT (YS 1) (YT (tC (.ty "bool")) YZ)))) (tOp (ZqX K) (YS 0) (YS 1))))))))
def Zjm:List Str:=["_law_found", "_law_due", "_law_k"]
theorem Zkc{K:YA}{H:Hp}{Q:VK}{n:Nat}{x y:V}{xs ys:List V}(lx:∀ (H':Hp) (R:VK) (i:Nat) u,Za [] H H'→xs[i]? = some u→R u H'→rIx K x (.int (i:Nat)) H' R)(ly:∀ (H':Hp) (R:VK) (i:Nat) u,Za [] H H'→ys[i]? = some u→R u H'→rIx K y (.int (i:Nat)) H' R)
  (le:∀ R:VK,R (.int (ys.length:Nat)) H→rLen K [y] H R) (e:xs.length=ys.length) (few:xs.length ≤ 1000000) (al:∀ (i:Nat) u v,xs[i]? = some u→ys[i]? = some v→Alk K H n u v) (q:∀ H',Za [] H H'→Q (.bl true) H') :
  rLen K [y] H fun x1 H1=>∃ j,[x1]=[V.int j]∧-2 ^ 62 ≤ j∧j < 2 ^ 62∧Zkk (Itr 0 j.toNat) (Y4 2) (tNot (tB (Xm (Zy K n) [] E0 (YT (tOp (rIx K) (YS 0) (YS 2)) (YT (tOp (rIx K) (YS 1) (YS 2)) YZ))))) (YS 2) [2] [some x,some y,none] H1 fun x H1=>mkL [] H1 fun y H2=>ZbH K x y H2 Q:=by
 refine le _ ⟨_,rfl,by omega,by omega,?_⟩
 rw[Int.toNat_natCast]
 refine Zgd ys.length (fun Dd i H'=>Za [] H H'∧H' Dd=some (.lst [])) (fun Dd H2 _ k g=>⟨k,g⟩) (fun Dd H2 _=>YO _) (fun Dd i H2 hi _=>hi) ?_ ?_
 ·rintro Dd i H2 v H3 fD hi ⟨k2,g2⟩ ⟨rfl,rfl⟩
  obtain⟨u,hu⟩:∃ u,xs[i]? = some u:=⟨xs[i],by simp[e,hi]⟩
  obtain⟨w,hw⟩:∃ u,ys[i]? = some u:=⟨ys[i],by simp[hi]⟩
  row_readAll go
  rw[Int.zero_add]
  refine lx _ _ i u k2 hu ?_
  row_readAll go
  refine ly _ _ i w k2 hw ?_
  row_readAll go
  refine⟨u,w,rfl,(al i u w hu hw).k0 k2,fun H4 k4=>?_⟩
  row_readAll go
  exact⟨k2.trans k4,k4.obj _ _ Ya g2⟩
 ·rintro Dd H2 fD ⟨k2,g2⟩
  row_readAll go
  refine Zbg (by simp) fun p H3 f3 k3 g3=>?_
  exact Zi_ (ds:=[]) (k3.obj _ _ Ya g2) .nil g3 (by rfl) (q H3 (k2.trans k3))
theorem ZgY{K:YA}{n:Nat}(vs:List V)(H:Hp)(Q:VK)(E:XK)(h:Zy K (n + 1) vs H Q E):Zc7 K (Zy K n) { nx:=fun _ H'=>Q .non H',rt:=Q } (start Zjm vs) H:=by
 obtain⟨x,y,rfl,al,q⟩:=h
 show Zc7 K _ _ [some x,some y,none] H
 unfold Zc7
 rcases al with⟨rfl,fl⟩ | ⟨a,b,xs,ys,rfl,rfl,h1,h2,h3,h4,h5⟩ | ⟨a,b,xs,ys,rfl,rfl,h1,h2,h3,h4,h5⟩ | ⟨a,b,ks,ls,rfl,rfl,h1,h2,h3,h4,h5,h6⟩
 ·cases x with
  | non =>
    row_readAll go
    refine ZiI (by row_readAll ln) fun p H1 f1 k1 g1=>?_
    refine Zf0 g1 (.base .non) (by rfl) ?_
    row_readAll go
    refine .inl (Zma Im.non.dp Im.non.dp (by rfl) (by rfl) ?_)
    rw[show PyData.eqv .none .none=true from rfl]
    row_readAll go
    exact ZiP (q H1 k1)
  | bl b =>
    row_readAll go
    refine ZiI (by row_readAll ln) fun p H1 f1 k1 g1=>?_
    refine Zf0 g1 (.base (.bl b)) (by rfl) ?_
    row_readAll go
    refine ZiP ?_
    row_readAll go
    exact .inl (ZiP (by rw[beq_self_eq_true]; exact q H1 k1))
  | int i =>
    row_readAll go
    refine ZiI (by row_readAll ln) fun p H1 f1 k1 g1=>?_
    refine Zf0 g1 (.base (.int i)) (by rfl) ?_
    row_readAll go
    refine ZiP ?_
    row_readAll go
    exact .inl (ZoN (by rw[decide_eq_true rfl]; exact q H1 k1))
  | str z =>
    row_readAll go
    refine ZiI (by row_readAll ln) fun p H1 f1 k1 g1=>?_
    refine Zf0 g1 (.base (.str z)) (by rfl) ?_
    row_readAll go
    refine .inl (ZoM ?_)
    rw[show decide (z=z)=true from decide_eq_true rfl]
    row_readAll go
    exact ZiP (q H1 k1)
  | flt _=>cases fl
  | ref _=>cases fl
  | byt _=>cases fl
  | ty _=>cases fl
 ·row_readAll go
  refine ZiI (by row_readAll ln) fun p H1 f1 k1 g1=>?_
  have s1:=k1.sqT h1
  have s2:=k1.sqT h2
  refine Zf0 g1 (Zi6 s2) (by rfl) ?_
  row_readAll go
  refine ZiI (by row_readAll ln) fun p2 H2 f2 k2 g2=>?_
  have s1:=k2.sqT s1
  have s2:=k2.sqT s2
  refine Zf0 g2 (Zi6 s1) (by rfl) ?_
  row_readAll go
  refine ZlS ?_
  simp only[bne_self_eq_false]
  row_readAll go
  refine Zig s1 ?_
  refine Zig s2 ?_
  rw[h3]
  row_readAll go
  have kk:=k1.trans k2
  exact Zkc (x:=.ref a) (y:=.ref b) (fun H' R i u k e r=>Zki (k.sqT s1) (atI_nat e) r) (fun H' R i u k e r=>Zki (k.sqT s2) (atI_nat e) r) (fun R r=>Zig s2 r) h3 h4 (fun i u v e1 e2=>(h5 i u v e1 e2).k0 kk) (fun H' k=>q H' (kk.trans k))
 ·have T1:TyX K H (.ref a) (.type "list"):=.base (.lst h1)
  have T2:TyX K H (.ref b) (.type "list"):=.base (.lst h2)
  row_readAll go
  refine Zgm (b:=false) T2 (by rfl) ?_
  row_readAll go
  refine ZiI (by row_readAll ln) fun p H1 f1 k1 g1=>?_
  have s1:=k1.obj _ _ Ya h1
  have s2:=k1.obj _ _ Ya h2
  refine Zf0 g1 (.base (.lst s2)) (by rfl) ?_
  row_readAll go
  refine ZiI (by row_readAll ln) fun p2 H2 f2 k2 g2=>?_
  have s1:=k2.obj _ _ Ya s1
  have s2:=k2.obj _ _ Ya s2
  refine Zf0 g2 (.base (.lst s1)) (by rfl) ?_
  row_readAll go
  refine Zgm (b:=true) (.base (.lst s1)) (by rfl) ?_
  row_readAll go
  refine Zgm (b:=true) (.base (.lst s2)) (by rfl) ?_
  row_readAll go
  refine ZlS ?_
  simp only[bne_self_eq_false]
  row_readAll go
  refine ZcN (SqL.of s1) ?_
  refine ZcN (SqL.of s2) ?_
  rw[h3]
  row_readAll go
  have kk:=k1.trans k2
  exact Zkc (x:=.ref a) (y:=.ref b) (fun H' R i u k e r=>ZaA (SqL.of (k.obj _ _ Ya s1)) (atI_nat e) r) (fun H' R i u k e r=>ZaA (SqL.of (k.obj _ _ Ya s2)) (atI_nat e) r) (fun R r=>ZcN (SqL.of s2) r) h3 h4 (fun i u v e1 e2=>(h5 i u v e1 e2).k0 kk) (fun H' k=>q H' (kk.trans k))
 ·have T1:TyX K H (.ref a) (.type "dict"):=.base (.dK h1)
  have T2:TyX K H (.ref b) (.type "dict"):=.base (.dK h2)
  row_readAll go
  refine Zgm (b:=true) T2 (by rfl) ?_
  row_readAll go
  refine Zgm (b:=true) T1 (by rfl) ?_
  row_readAll go
  refine⟨a,ks,rfl,.inl h1,fun p H1 f1 k1 g1=>?_⟩
  row_readAll go
  refine⟨b,ls,rfl,.inl (k1.obj _ _ Ya h2),fun p2 H2 f2 k2 g2=>?_⟩
  row_readAll go
  have ek:(ls.map fun kv=>kV kv.1)=ks.map fun kv=>kV kv.1:=by
   have:=congrArg (List.map kV) h3
   rw[Yx,Yx]at this
   exact this.symm
  rw[ek]at g2
  obtain⟨m,em⟩:∃ m,n=m + 2:=⟨n - 2,by omega⟩
  refine⟨_,_,rfl,by
   rw[em]
   refine .inr (.inr (.inl ⟨p,p2,_,_,rfl,rfl,k2.obj _ _ Ya g1,g2,rfl,by rw[Yb]; exact h4,fun i u v e1 e2=>?_⟩))
   rw[e1]at e2
   cases e2
   refine .inl ⟨rfl,?_⟩
   rw[Ym,Option.map_eq_some_iff]at e1
   obtain⟨kv,_,rfl⟩:=e1
   cases kv.1 <;> rfl,fun H3 k3=>?_⟩
  row_readAll go
  have kk:=(k1.trans k2).trans k3
  refine .inr ⟨a,b,ks,ls,rfl,rfl,kk.obj _ _ Ya h1,kk.obj _ _ Ya h2,?_,fun p hp=>?_,q H3 kk⟩
  ·have:=congrArg List.length h3
   simpa using this
  ·obtain⟨u,z1,d,z2,z3,z4,z5⟩:=h6 p hp
   exact⟨u,d,z1,(z2.mono kk).dp,(z3.mono kk).dp,z4,z5⟩
end M
namespace M
open PySem PySem.Spec PyProof.Rows L2 L2H SlX
def Zad(K:YA)(C:YD):Sp:=fun vs H Q _=>∃ a P fp,vs=[.ref a]∧ZH K H C a P fp∧Q (.int (P.length:Nat)) H
def Z3(K:YA)(C:YD):Sp:=fun vs H Q _=>∃ a P fp,vs=[.ref a]∧ZH K H C a P fp∧∀ p H',H p=none→Za [] H H'→H' p=some (.lst ((P.map (·.1)).map V.str))→Q (.ref p) H'
def ZaU(K:YA)  : TS:=(Xh (tCB (rLen K) (YT (SlX.tSl K (YS 0) "own_names") YZ)))
def ZfK:List Str:=["self"]
def Zgj(K:YA)(CP:YD):TS:=(Y9 (Xk (tCB Zhj (YT (YS 1) YZ)) (Y4 2))
 (Y9 (Xk (Zq2 K (ZmI K CP (YS 0)) (Y4 6) tYes (YS 6) [6]) (Y4 3))
 (Y9 (Xk (Zbo YZ) (Y4 4))
 (Y9 (tFor (ZjT K (YS 2)) (Y4 5) (Y9 (Xk (tOp (rAdd K) (YS 4) (tLc (ZjT K (Xm (ZI K 5) [] E0 (YT (tOp rIxD (YS 1) (YS 5)) (YT (Zs K YZ) YZ)))) (Y4 6) tYes (Zs K (YT (YS 5) (YT (tOp (rIx K) (YS 6) (tC (.int 0))) (YT (tOp (rIx K) (YS 6) (tC (.int 1))) YZ)))) [6])) (Y4 4))
 (Y9 (Xi (tNot (tB (Xm (Zy K 70) [] E0 (YT (tOp (ZpE CP (Zl K CP) E0) (YS 0) (YS 5)) (YT (tOp rIxD (YS 1) (YS 5)) YZ))))) (Xh (tC (.bl false))) Xo)
 (Y9 (Xi (tNot (tB (Xm (Zy K 70) [] E0 (YT (tMethSl CP (ZT K CP) E0 (YS 0) (YT (YS 5) YZ)) (YT (Xm (ZI K 5) [] E0 (YT (tOp rIxD (YS 1) (YS 5)) (YT (Zs K YZ) YZ))) YZ))))) (Xh (tC (.bl false))) Xo)
 (Xi (Xc (tOp rNotB (tOp (ZqM CP (Zp K CP) E0) (YS 5) (YS 0)) (tC (.bl true)))) (Xh (tC (.bl false))) Xo)))))
 (Y9 (Xi (tOr (tNot (tB (Xm (Zy K 70) [] E0 (YT (tMethSl CP (Z3 K CP) E0 (YS 0) YZ) (YT (YS 2) YZ))))) (tNot (tB (Xm (Zy K 70) [] E0 (YT (YS 3) (YT (YS 4) YZ)))))) (Xh (tC (.bl false))) Xo)
 (Xh (Xm (Zy K 70) [] E0 (YT (tCB (ZnV CP (Zad K CP) E0) (YT (YS 0) YZ)) (YT (tCB (rLen K) (YT (YS 2) YZ)) YZ)))))))))
def ZmO:List Str:=["_law_program_here", "_law_due", "_law_names_here", "_law_each", "_law_walked", "_law_name_here", "_law_row"]
end M
namespace M
open PySem L2 L2H SlX
def Lit(K:YA)(σ:L2.St)(H0:Hp)(t:TE)(d:PyData):Prop:=∀ (H:Hp) (Q:VK),Za [] H0 H→(∀ v H',Za [] H H'→Im K H' v d→Q v H')→t σ H Q
def ZoF(K:YA)(σ:L2.St)(H0:Hp)(t:TA)(ds:List PyData):Prop:=∀ (H:Hp) (Q:List V→Hp→Prop),Za [] H0 H→(∀ vs H',Za [] H H'→ImAll K H' vs ds→Q vs H')→t σ H Q
section
variable {K:YA} {σ:L2.St} {H0:Hp}
theorem Lit.str(x:Str):Lit K σ H0 (tC (.str x)) (.str x):=fun H Q _ q=>q _ H (Za.refl _ _) (.str x)
theorem Lit.int(i:Int):Lit K σ H0 (tC (.int i)) (.int i):=fun H Q _ q=>q _ H (Za.refl _ _) (.int i)
theorem Lit.non:Lit K σ H0 (tC .non) .none:=fun H Q _ q=>q _ H (Za.refl _ _) .non
theorem ZoF.nil:ZoF K σ H0 YZ []:=fun H Q _ q=>q [] H (Za.refl _ _) .nil
theorem ZoF.cons{ta:TE}{tr:TA}{d:PyData}{ds:List PyData}(h:Lit K σ H0 ta d)(r:ZoF K σ H0 tr ds):ZoF K σ H0 (YT ta tr) (d :: ds):=fun H Q k q =>
 h H _ k fun v H1 k1 i=>r H1 _ (k.trans k1) fun vs H2 k2 al=>q (v :: vs) H2 (k1.trans k2) (.cons (i.mono k2) al)
theorem Lit.tup{t:TA}{ds:List PyData}(h:ZoF K σ H0 t ds)(l:ds.length ≤ 1000:=by simp):Lit K σ H0 (Zs K t) (.tuple ds):=fun H Q k q =>
 h H _ k fun vs H1 k1 al=>ZV (by rw[al.length,ZaF]; omega) fun p H2 _ k2 s=>q _ H2 (k1.trans k2) (.tup s (al.mono k2))
end
section
variable {K:YA} {H:Hp}
end
structure Ztv(r:Str×Wd×List Plc):Prop where
 sh:SeqAt.shaped (.tuple (r.2.1.shown.map Vl.d))=true
 ev:SeqAt.shaped (.tuple (r.2.1.ev.map evD))=true
 tr:SeqAt.shaped (.tuple (r.2.2.map Zn_))=true
 vs:∀ p∈r.2.1.vs,SeqAt.shaped p.2.d=true
 nd:(r.2.1.vs.map (·.1)).Nodup
section
variable {K:YA} {c:CA} {CO:YD} {H:Hp} {Q:VK}
end
end M
namespace M
open PySem PySem.Spec PyProof.Rows L2 L2H SlX
section
variable {K:YA} {σ:L2.St} {H0 H:Hp} {Q:VK}
inductive Zqu (K:YA) (σ:L2.St) (H0:Hp):List (TE×TE)→List (Str×PyData)→Prop
 | nil:Zqu K σ H0 [] []
 | cons {tk tv:TE} {k:Str} {d:PyData} {r:List (TE×TE)} {l:List (Str×PyData)}:Lit K σ H0 tk (.str k)→Lit K σ H0 tv d→Zqu K σ H0 r l→Zqu K σ H0 ((tk,tv) :: r) ((k,d) :: l)
theorem Zqu.run{trs:List (TE×TE)}{kds:List (Str×PyData)}(h:Zqu K σ H0 trs kds):∀ (H:Hp) (R:List (V×V)→Hp→Prop),Za [] H0 H→(∀ m H',Za [] H H'→ZbF kS (fun v d=>Im K H' v d) m kds→R (m.map fun kv=>(kV kv.1,kv.2)) H')→tPairs trs σ H R:=by
 induction h with
 | nil=>exact fun H R k q=>q [] H (Za.refl _ _) .nil
 | cons hk hv _ ih =>
   intro H R k q
   refine hk H _ k fun x H1 k1 ix=>?_
   cases ix.of_str
   refine hv H1 _ (k.trans k1) fun y H2 k2 iy=>?_
   refine ih H2 _ ((k.trans k1).trans k2) fun m H3 k3 r=>?_
   exact q ((kS _,y) :: m) H3 ((k1.trans k2).trans k3) (.cons (iy.mono k3) r)
theorem putK_new{m:List (Key×V)}{k:Key}{v:V}(h:k∉m.map (·.1)):putK m k v=m++[(k,v)]:=by
 unfold putK
 rw[if_neg]
 simp only[List.any_eq_true,decide_eq_true_eq,not_exists,not_and]
 exact fun p hp e=>h (by rw[← e]; exact Yv (f:=(·.1)) hp)
theorem ZiQ:∀ (l m:List (Key×V)),((m++l).map (·.1)).Nodup→mergeK m l=m++l
 | [],m,_=>by simp[mergeK]
 | p :: r,m,h=>by
   show mergeK (putK m p.1 p.2) r=_
   have hn:p.1∉m.map (·.1):=by
    rw[Yl,List.nodup_append]at h
    exact fun z=>h.2.2 _ z p.1 (by simp) rfl
   rw[putK_new hn,ZiQ r _ (by simpa using h)]
   simp
theorem Zom{α : Type}{g : α→PyData}{m:List (Key×V)}:∀ {P:List (Str×α)},ZbF kS (fun v d=>Im K H v d) m (P.map fun x=>(x.1,g x.2))→ZbF kS (fun v b=>Im K H v (g b)) m P:=by
 intro P
 induction P generalizing m with
 | nil=>intro h; cases h; exact .nil
 | cons x r ih =>
   intro h
   obtain⟨a,b⟩:=x
   cases h with
   | cons h t=>exact .cons h (ih t)
theorem ZK.of{d:YD}{m:List (Key×V)}{P:Prg}(g:H d=some (.dK m))(r:ZbF kS (fun v d=>Im K H v d) m (P.map fun x=>(x.1,.tuple (blkD x.2)))):ZK K H d P:=⟨m,g,Zom r⟩
end
section
variable {K:YA} {H:Hp} {Q:VK} {C a:YD} {m e:Str} {w:Wd} {t:List Plc} {es:List (Str×SpE)} {fp:List YD}
end
end M
namespace M
open PySem L2 L2H SlX
theorem Zh3{d:PyData}(h:∀ ds,d≠.tuple ds):∀ n,Wid n d
 | 0=>trivial
 | _ + 1=>fun ds e=>absurd e (h ds)
theorem ZaB{ds:List PyData}(l:ds.length ≤ 1000000)(h:∀ n,∀ e∈ds,Wid n e):∀ n,Wid n (.tuple ds)
 | 0=>trivial
 | n + 1=>fun es e=>by cases e; exact⟨l,h n⟩
theorem Zau(x:Str)(n:Nat):Wid n (.str x):=Zh3 (fun ds e=>by cases e) n
theorem Zhq:∀ (e:Ex) (n:Nat),Wid n e.d
 | .int i,n=>Zh3 (fun ds e=>by cases e) n
 | .nm x,n=>ZaB (by simp) (fun n e he=>by simp only[Yn,Ya,or_false]at he; rcases he with rfl | rfl <;> exact Zau _ n) n
 | .of x y,n=>ZaB (by simp) (fun n e he=>by simp only[Yn,Ya,or_false]at he; rcases he with rfl | rfl | rfl <;> exact Zau _ n) n
 | .bin s l r,n=>ZaB (by simp) (fun n e he=>by
   simp only[Yn,Ya,or_false]at he
   rcases he with rfl | rfl | rfl
   ·exact Zau _ n
   ·exact Zhq l n
   ·exact Zhq r n) n
theorem ZlT:∀ b:List Stm,b.length ≤ cntL b
 | []=>by simp[cntL]
 | s :: r=>by have:=ZlT r; have:=Zjf s; simp only[cntL,Yd]; omega
mutual
theorem Zjn:∀ (s:Stm),s.cnt ≤ 1000→∀ n,Wid n s.d
 | .set x e,_,n=>ZaB (by simp) (fun n d hd=>by simp only[Yn,Ya,or_false]at hd; rcases hd with rfl | rfl | rfl; exact Zau _ n; exact Zau _ n; exact Zhq e n) n
 | .del x,_,n=>ZaB (by simp) (fun n d hd=>by simp only[Yn,Ya,or_false]at hd; rcases hd with rfl | rfl <;> exact Zau _ n) n
 | .shw e,_,n=>ZaB (by simp) (fun n d hd=>by simp only[Yn,Ya,or_false]at hd; rcases hd with rfl | rfl; exact Zau _ n; exact Zhq e n) n
 | .call e,_,n=>ZaB (by simp) (fun n d hd=>by simp only[Yn,Ya,or_false]at hd; rcases hd with rfl | rfl; exact Zau _ n; exact Zhq e n) n
 | .raise,_,n=>ZaB (by simp) (fun n d hd=>by simp only[Yn,Ya,or_false]at hd; subst hd; exact Zau _ n) n
 | .imp m x,_,n=>ZaB (by simp) (fun n d hd=>by simp only[Yn,Ya,or_false]at hd; rcases hd with rfl | rfl | rfl <;> exact Zau _ n) n
 | .frm m y x,_,n=>ZaB (by simp) (fun n d hd=>by simp only[Yn,Ya,or_false]at hd; rcases hd with rfl | rfl | rfl | rfl <;> exact Zau _ n) n
 | .star m,_,n=>ZaB (by simp) (fun n d hd=>by simp only[Yn,Ya,or_false]at hd; rcases hd with rfl | rfl <;> exact Zau _ n) n
 | .fn x b,h,n=>by
   simp only[Stm.cnt]at h
   simp only[Stm.d]
   refine ZaB (by simp) (fun n d hd=>?_) n
   simp only[Yn,Ya,or_false]at hd
   rcases hd with rfl | rfl | rfl
   ·exact Zau _ n
   ·exact Zau _ n
   ·exact wdb_blk b (by omega) n
 | .ite e b o,h,n=>by
   simp only[Stm.cnt]at h
   simp only[Stm.d]
   refine ZaB (by simp) (fun n d hd=>?_) n
   simp only[Yn,Ya,or_false]at hd
   rcases hd with rfl | rfl | rfl | rfl
   ·exact Zau _ n
   ·exact Zhq e n
   ·exact wdb_blk b (by omega) n
   ·exact wdb_blk o (by omega) n
 | .tri k b o,h,n=>by
   simp only[Stm.cnt]at h
   simp only[Stm.d]
   refine ZaB (by simp) (fun n d hd=>?_) n
   simp only[Yn,Ya,or_false]at hd
   rcases hd with rfl | rfl | rfl | rfl
   ·exact Zau _ n
   ·exact Zau _ n
   ·exact wdb_blk b (by omega) n
   ·exact wdb_blk o (by omega) n
theorem wdb_blk:∀ (b:List Stm),cntL b ≤ 1000→∀ n,Wid n (.tuple (blkD b))
 | b,h,n=>by
   refine ZaB ?_ (fun n e he=>wdb_all b h n e he) n
   rw[Zby,Yb]
   have:=ZlT b
   omega
theorem wdb_all:∀ (b:List Stm),cntL b ≤ 1000→∀ n,∀ e∈blkD b,Wid n e
 | [],_,n,e,he=>by simp[blkD]at he
 | s :: r,h,n,e,he=>by
   simp only[cntL]at h
   rw[Zby,Yr,Yn]at he
   rcases he with rfl | he
   ·exact Zjn s (by omega) n
   ·exact wdb_all r (by omega) n e (by rw[Zby]; exact he)
end
mutual
theorem ZmP:∀ (s:Stm) (p:Pth),∀ r∈s.sub p,r.2.dep ≤ s.dep
 | .fn _ b,p,r,m=>by
   simp only[Stm.sub]at m; simp only[Stm.dep]
   have:=walk_depB b (p++[0]) 0 r m; omega
 | .ite _ b o,p,r,m=>by
   simp only[Stm.sub,Yh]at m; simp only[Stm.dep]
   rcases m with m | m
   ·have:=walk_depB b (p++[0]) 0 r m; omega
   ·have:=walk_depB o (p++[1]) 0 r m; omega
 | .tri _ b o,p,r,m=>by
   simp only[Stm.sub,Yh]at m; simp only[Stm.dep]
   rcases m with m | m
   ·have:=walk_depB b (p++[0]) 0 r m; omega
   ·have:=walk_depB o (p++[1]) 0 r m; omega
 | .set ..,_,r,m=>by simp[Stm.sub]at m
 | .del ..,_,r,m=>by simp[Stm.sub]at m
 | .shw ..,_,r,m=>by simp[Stm.sub]at m
 | .call ..,_,r,m=>by simp[Stm.sub]at m
 | .raise,_,r,m=>by simp[Stm.sub]at m
 | .imp ..,_,r,m=>by simp[Stm.sub]at m
 | .frm ..,_,r,m=>by simp[Stm.sub]at m
 | .star ..,_,r,m=>by simp[Stm.sub]at m
theorem walk_depB:∀ (b:List Stm) (p:Pth) (i:Nat),∀ r∈walkL p i b,r.2.dep ≤ depL b
 | [],_,_,r,m=>by simp[walkL]at m
 | s :: b,p,i,r,m=>by
   simp only[walkL,Yn,Yh]at m; simp only[depL]
   rcases m with rfl | m | m
   ·show s.dep ≤ _; omega
   ·have:=ZmP s (p++[i]) r m; omega
   ·have:=walk_depB b p (i + 1) r m; omega
end
mutual
theorem ZmQ:∀ (s:Stm) (p:Pth),∀ r∈s.sub p,r.2.cnt ≤ s.cnt
 | .fn _ b,p,r,m=>by
   simp only[Stm.sub]at m; simp only[Stm.cnt]
   have:=walk_cntB b (p++[0]) 0 r m; omega
 | .ite _ b o,p,r,m=>by
   simp only[Stm.sub,Yh]at m; simp only[Stm.cnt]
   rcases m with m | m
   ·have:=walk_cntB b (p++[0]) 0 r m; omega
   ·have:=walk_cntB o (p++[1]) 0 r m; omega
 | .tri _ b o,p,r,m=>by
   simp only[Stm.sub,Yh]at m; simp only[Stm.cnt]
   rcases m with m | m
   ·have:=walk_cntB b (p++[0]) 0 r m; omega
   ·have:=walk_cntB o (p++[1]) 0 r m; omega
 | .set ..,_,r,m=>by simp[Stm.sub]at m
 | .del ..,_,r,m=>by simp[Stm.sub]at m
 | .shw ..,_,r,m=>by simp[Stm.sub]at m
 | .call ..,_,r,m=>by simp[Stm.sub]at m
 | .raise,_,r,m=>by simp[Stm.sub]at m
 | .imp ..,_,r,m=>by simp[Stm.sub]at m
 | .frm ..,_,r,m=>by simp[Stm.sub]at m
 | .star ..,_,r,m=>by simp[Stm.sub]at m
theorem walk_cntB:∀ (b:List Stm) (p:Pth) (i:Nat),∀ r∈walkL p i b,r.2.cnt ≤ cntL b
 | [],_,_,r,m=>by simp[walkL]at m
 | s :: b,p,i,r,m=>by
   simp only[walkL,Yn,Yh]at m; simp only[cntL]
   rcases m with rfl | m | m
   ·show s.cnt ≤ _; omega
   ·have:=ZmQ s (p++[i]) r m; omega
   ·have:=walk_cntB b p (i + 1) r m; omega
end
theorem ZiR{s:Stm}(w:s.wf)(d:s.dep ≤ 4):s.d.depth ≤ 64:=by
 have l:Zij [s]:=ZhO (by simp[wfL,w]) (by simp only[depL]; omega)
 have:=l.get (i:=0) rfl
 exact((Zaz _).mp this).2
theorem depth_ints:∀ l:List Nat,PyData.depthAll (l.map fun n=>PyData.int (n:Nat))=0
 | []=>rfl
 | n :: r=>by rw[Yr,PyData.depthAll,depth_ints r]; rfl
theorem Zhr(p:Pth):(ZcJ p).depth ≤ 1:=by
 show PyData.depth (.tuple (p.map fun n=>PyData.int (n:Nat))) ≤ 1
 rw[PyData.depth,depth_ints]
 omega
theorem Zkd{p:Pth}(h:p.length ≤ 1000)(n:Nat):Wid n (ZcJ p):=ZaB (by rw[Yb]; omega) (fun n e he=>by
 obtain⟨i,_,rfl⟩:=Yq.mp he
 exact Zh3 (fun ds e=>by cases e) n) n
theorem Zqv{b:List Stm}(ok:ZdB b){r:Pth×Stm}(hr:r∈walkL [] 0 b):(Zgi r).depth < 69∧Wid 69 (Zgi r):=by
 have w:=walk_wf b [] 0 ok.wf r hr
 have d:=walk_depB b [] 0 r hr
 have c:=walk_cntB b [] 0 r hr
 have p:=ok.pth r hr
 have o1:=ok.dep
 have o2:=ok.cnt
 have s:=ZiR w (by omega)
 have q:=Zhr r.1
 refine⟨?_,ZaB (by simp) (fun n e he=>?_) 69⟩
 ·simp only[Zgi,PyData.depth,PyData.depthAll]
  omega
 ·simp only[Yn,Ya,or_false]at he
  rcases he with rfl | rfl
  ·exact Zkd (by omega) n
  ·exact Zjn _ (by omega) n
theorem Zon{b:List Stm}(ok:ZdB b)(m:Str){r:Pth×Stm}(hr:r∈walkL [] 0 b):(ZlJ m r).depth < 69∧Wid 69 (ZlJ m r):=by
 have w:=walk_wf b [] 0 ok.wf r hr
 have d:=walk_depB b [] 0 r hr
 have c:=walk_cntB b [] 0 r hr
 have p:=ok.pth r hr
 have o1:=ok.dep
 have o2:=ok.cnt
 have s:=ZiR w (by omega)
 have q:=Zhr r.1
 refine⟨?_,ZaB (by simp) (fun n e he=>?_) 69⟩
 ·simp only[ZlJ,PyData.depth,PyData.depthAll]
  omega
 ·simp only[Yn,Ya,or_false]at he
  rcases he with rfl | rfl | rfl
  ·exact Zau _ n
  ·exact Zkd (by omega) n
  ·exact Zjn _ (by omega) n
theorem Znh{b:List Stm}(ok:ZdB b):(PyData.tuple (blkD b)).depth < 70∧Wid 70 (.tuple (blkD b)):=by
 have l:Zij b:=ZhO ok.wf (by have:=ok.dep; omega)
 have d:PyData.depth (.tuple (blkD b)) ≤ 64:=((Zaz _).mp l).2
 exact⟨by omega,wdb_blk b (by have:=ok.cnt; omega) 70⟩
theorem Zh4{K:YA}{H:Hp}{n:Nat}{a b:YD}{xs ys:List V}{ds:List PyData}(ha:H a=some (.lst xs))(hb:H b=some (.lst ys))(ia:ImAll K H xs ds)(ib:ImAll K H ys ds)(l:ds.length ≤ 1000000)(h:∀ d∈ds,d.depth < n∧Wid n d):Alk K H (n + 1) (.ref a) (.ref b):=by
 refine .inr (.inr (.inl ⟨a,b,xs,ys,rfl,rfl,ha,hb,by rw[ia.length,ib.length],by rw[ia.length]; exact l,fun i u v e1 e2=>?_⟩))
 obtain⟨d1,g1,j1⟩:=ia.get e1
 obtain⟨d2,g2,j2⟩:=ib.get e2
 rw[g1]at g2
 cases g2
 obtain⟨h1,h2⟩:=h _ (Yj g1)
 exact ZlR n j1 j2 h1 h2
end M
namespace M
open PySem PySem.Spec PyProof.Rows L2 L2H SlX
theorem Zsg{ta tk tv:TE}{σ:L2.St}{H:Hp}{Q:VK}:tDm ta tk tv σ H Q = ∀ p,H p=none→ta σ (upd H p (.dK [])) fun x H1=>∃ (a:YD) (kvs:List (Key×V)),x = .ref a∧a≠p∧H1 a=some (.dK kvs)∧H1 p=some (.dK [])∧kvs.length ≤ 1000 ∧
 ∀ p2,upd H1 p (.dK (mergeK [] kvs)) p2=none→tk σ (upd (upd H1 p (.dK (mergeK [] kvs))) p2 (.dK [])) fun y H2=>tv σ H2 fun z H3=>∃ key:Key,y=kV key∧H3 p=some (.dK (mergeK [] kvs))∧H3 p2=some (.dK []) ∧
   Q (.ref p) (upd (upd H3 p2 (.dK (mergeK [] [(key,z)]))) p (.dK (mergeK (mergeK [] kvs) (mergeK [] [(key,z)])))):=rfl
theorem Zsh{ta tb:TE}{σ:L2.St}{H:Hp}{Q:VK}:Zr1 ta tb σ H Q = ∀ p,H p=none→ta σ (upd H p (.dK [])) fun x H1=>∃ (a:YD) (kvs:List (Key×V)),x = .ref a∧a≠p∧H1 a=some (.dK kvs)∧H1 p=some (.dK [])∧kvs.length ≤ 1000 ∧
 tb σ (upd H1 p (.dK (mergeK [] kvs))) fun y H2=>∃ (b:YD) (kws:List (Key×V)),y = .ref b∧b≠p∧H2 b=some (.dK kws)∧H2 p=some (.dK (mergeK [] kvs))∧kws.length ≤ 1000∧Q (.ref p) (upd H2 p (.dK (mergeK (mergeK [] kvs) kws))):=rfl
theorem Zh5{K:YA}{CP d:YD}{P:Prg}{H:Hp}{R:YD→Hp→Prop}(dp:ZK K H d P)(ok:Zbw P)(yes:∀ a fp H',ZH K H' CP a (Zt P) fp→Za [] H H'→R a H') :
  ∀ x dx,H x=none→H dx=none→dx≠x→Zf K CP [.ref x,.ref d] (upd (upd H dx (.own x)) x (.ins CP dx [])) (fun v H2=>v = .non∧R x H2) E0:=by
 intro x dx fx fd ne
 have k0:Za [] H (upd (upd H dx (.own x)) x (.ins CP dx [])):=(Za.new fd).trans (Za.new (by rw[upd_ne (Ne.symm ne)]; exact fx))
 have k1:Za [] H (upd (upd H dx (.own x)) x (.ins CP dx [])):=k0
 refine⟨x,dx,d,P,rfl,Y8,?_,ne,dp.k0 k0,ok,?_⟩
 ·rw[upd_ne ne,Y8]
 ·intro nl e H' at_ _ _ kk
  refine⟨rfl,yes x _ H' at_ (k0.step kk fun b m=>?_)⟩
  simp only[Yn,Ya,or_false]at m
  rcases m with rfl | rfl
  ·exact .inr fx
  ·exact .inr fd
theorem Zhs{P:Prg}{m:List (Key×V)}{R:V→List Stm→Prop}(r:ZbF kS R m P)(nd:(P.map (·.1)).Nodup):mergeK [] m=m:=by
 refine ZiQ m [] ?_
 rw[List.nil_append,r.keys]
 rw[show(P.map fun p=>kS p.1)=(P.map (·.1)).map kS by rw[Yx]; rfl]
 exact List.Pairwise.map kS (fun a b hab z=>hab (Zak _ _ z)) nd
def Zax(P R:Prg):Prg:=R.foldl (fun acc x=>ZbE acc x.1 x.2) P
theorem ZlU{R:V→List Stm→Prop}:∀ {m':List (Key×V)} {P':Prg},ZbF kS R m' P'→∀ {m:List (Key×V)} {P:Prg},ZbF kS R m P→ZbF kS R (mergeK m m') (Zax P P')
 | _,_,.nil,_,_,r=>r
 | _,_,.cons a t,_,_,r=>ZlU t (r.put Zak a)
theorem ZfL:∀ (R P:Prg) (n:Str),(R.map (·.1)).Nodup→valA (Zax P R) n=(valA R n).or (valA P n)
 | [],_,_,_=>by simp[Zax,valA]
 | (k,b) :: r,P,n,nd=>by
   rw[Yr,List.nodup_cons]at nd
   show valA (Zax (ZbE P k b) r) n=_
   rw[ZfL r (ZbE P k b) n nd.2,Zge]
   have e:valA ((k,b) :: r) n=if k=n then some b else valA r n:=by simp[valA,List.find?_cons]; split <;> simp_all
   rw[e]
   by_cases h:k=n
   ·subst h
    rw[if_pos rfl,if_pos rfl,ZQ.mpr nd.1]
    rfl
   ·rw[if_neg h,if_neg h]
theorem ZeC{K:YA}{C p1 p2:YD}(T:Zd9 K C p1 p2)(vs:List V)(H:Hp)(Q:VK)(E:XK)(h:Zad K C vs H Q E):ZaU K { nx:=fun _ H'=>Q .non H',rt:=Q } (start ZfK vs) H:=by
 obtain⟨a,P,fp,rfl,x,q⟩:=h
 show ZaU K _ [some (.ref a)] H
 unfold ZaU
 obtain⟨dx,nl,d,rfl,h1,h2,h3,h4⟩:=x.ex
 row_readAll go
 refine⟨a,C,dx,p1,_,_,_,rfl,h1,T.c,T.s1,rfl,?_⟩
 refine ZcN (SqL.of h3) ?_
 row_readAll go
 rw[Yb,Yb]
 exact q
def Zav(K:YA)  : TS:=(Xh (tCB (Zhz K) (YT (SlX.tSl K (YS 0) "own_names") YZ)))
def ZeU:List Str:=["self"]
theorem Zdj{K:YA}{C p1 p2:YD}(T:Zd9 K C p1 p2)(vs:List V)(H:Hp)(Q:VK)(E:XK)(h:Z3 K C vs H Q E):Zav K { nx:=fun _ H'=>Q .non H',rt:=Q } (start ZeU vs) H:=by
 obtain⟨a,P,fp,rfl,x,q⟩:=h
 show Zav K _ [some (.ref a)] H
 unfold Zav
 obtain⟨dx,nl,d,rfl,h1,h2,h3,h4⟩:=x.ex
 row_readAll go
 refine⟨a,C,dx,p1,_,_,_,rfl,h1,T.c,T.s1,rfl,?_⟩
 refine ZjU (.inl (SqL.of h3)) fun l H' f k g=>?_
 exact q l H' f k g
def Zz(K:YA)(C:YD):Sp:=fun vs H Q _=>∃ a b P P' fp fp',vs=[.ref a,.ref b]∧ZH K H C a P fp∧ZH K H C b P' fp'∧(∀ x∈P,Zij x.2)∧(∀ x∈P',Zij x.2)∧Q (.bl (Zji P P')) H
def Zbm(K:YA)(CP:YD):TS:=(Xh (tAndV (tCB (rIsiSl K (.ref CP)) (YT (YS 1) (YT (tC (.ref CP)) YZ))) (tOp (Zod K) (SlX.tSl K (YS 0) "own_blocks") (SlX.tSl K (YS 1) "own_blocks"))))
def Zf7:List Str:=["self", "other"]
theorem ZeV{K:YA}{C p1 p2:YD}(T:Zd9 K C p1 p2)(si:SIsi K C)(ki:PySem.W.kitOne K (.ref C) (.ref C)=some true)(vs:List V)(H:Hp)(Q:VK)(E:XK)(h:Zz K C vs H Q E):Zbm K C { nx:=fun _ H'=>Q .non H',rt:=Q } (start Zf7 vs) H:=by
 obtain⟨a,b,P,P',fp,fp',rfl,x,x',lb,lb',q⟩:=h
 show Zbm K C _ [some (.ref a),some (.ref b)] H
 unfold Zbm
 obtain⟨dx,nl,d,rfl,h1,h2,h3,h4⟩:=x.ex
 obtain⟨dx',nl',d',rfl,h1',h2',h3',h4'⟩:=x'.ex
 row_readAll go
 refine⟨b,C,dx',_,.ref C,true,rfl,rfl,fun w z=>z,h1',T.c,si,ki,?_⟩
 row_readAll go
 refine⟨a,C,dx,p2,_,_,_,rfl,h1,T.c,T.s2,rfl,?_⟩
 refine⟨b,C,dx',p2,_,_,_,rfl,h1',T.c,T.s2,rfl,?_⟩
 obtain⟨m,g,rm⟩:=h4
 obtain⟨m',g',rm'⟩:=h4'
 exact⟨d,d',m,m',P,P',rfl,rfl,g,g',rm,rm',lb,lb',q⟩
def ZD(K:YA)(CP:YD):Sp:=fun vs H Q _=>∃ a P fp n v b,vs=[.ref a,.str n,v]∧ZH K H CP a P fp∧(P.map (·.1)).Nodup∧P.length ≤ 8∧Im K H v (.tuple (blkD b))∧Zbw (ZbE P n b)∧∀ a' fp' H',ZH K H' CP a' (Zt (ZbE P n b)) fp'→Za [] H H'→Q (.ref a') H'
def Zae(K:YA)(CP:YD):TS:=(Xh (tMake CP (Zf K CP) [] E0 (YT (tDm (SlX.tSl K (YS 0) "own_blocks") (YS 1) (YS 2)) YZ)))
def ZdQ:List Str:=["self", "name", "block"]
theorem ZcX{K:YA}{CP p1 p2:YD}(T:Zd9 K CP p1 p2)(vs:List V)(H:Hp)(Q:VK)(E:XK)(h:ZD K CP vs H Q E):Zae K CP { nx:=fun _ H'=>Q .non H',rt:=Q } (start ZdQ vs) H:=by
 obtain⟨a,P,fp,n,v,b,rfl,x,nd,few,iv,ok,q⟩:=h
 show Zae K CP _ [some (.ref a),some (.str n),some v] H
 unfold Zae
 obtain⟨dx,nl,d,rfl,h1,h2,h3,h4⟩:=x.ex
 obtain⟨mm,g4,r4⟩:=h4
 have lm:=r4.length
 row_readAll go
 rw[Zsg]
 intro p0 f0
 row_readAll go
 have k0:Za [] H (upd H p0 (.dK [])):=Za.new f0
 have g40:=k0.obj _ _ Ya g4
 have s0:Slt (upd H p0 (.dK [])) a CP dx [some (.ref d),some (.ref nl)]:=Slt.keep (b:=.own 0) h1 k0 Ya Ya
 refine⟨a,CP,dx,p2,_,_,_,rfl,s0,T.c,T.s2,rfl,?_⟩
 have em:=Zhs r4 nd
 have e2:∀ z,mergeK mm (mergeK [] [(kS n,z)])=putK mm (kS n) z:=fun z=>rfl
 have dp0:d≠p0:=fun z=>by rw[z,f0]at g4; cases g4
 refine⟨d,mm,rfl,dp0,g40,Y8,by omega,fun p3 f3=>?_⟩
 rw[em]at f3 ⊢
 row_readAll go
 have k1:Za [p0] (upd H p0 (.dK [])) (upd (upd H p0 (.dK [])) p0 (.dK mm)):=Za.put Y8 True.intro
 have k01:Za [] H (upd (upd H p0 (.dK [])) p0 (.dK mm)):=k0.step1 k1 f0
 have k2:Za [] (upd (upd H p0 (.dK [])) p0 (.dK mm)) (upd (upd (upd H p0 (.dK [])) p0 (.dK mm)) p3 (.dK [])):=Za.new f3
 have n03:p0≠p3:=fun z=>by rw[← z,Y8]at f3; cases f3
 refine⟨kS n,rfl,by rw[upd_ne n03,Y8],Y8,?_⟩
 rw[e2]
 generalize hH2:upd (upd (upd H p0 (.dK [])) p0 (.dK mm)) p3 (.dK [])=H2 at k2
 have g3:H2 p3=some (.dK []):=by rw[← hH2]; exact Y8
 have g0:H2 p0=some (.dK mm):=by rw[← hH2,upd_ne n03,Y8]
 have k02:=k01.trans k2
 have k3:Za [p3] H2 (upd H2 p3 (.dK (mergeK [] [(kS n,v)]))):=Za.put g3 True.intro
 have k03:=k02.step1 k3 (k01.free f3)
 have g0':upd H2 p3 (.dK (mergeK [] [(kS n,v)])) p0=some (.dK mm):=by rw[upd_ne n03]; exact g0
 generalize upd H2 p3 (.dK (mergeK [] [(kS n,v)]))=H3 at k03 g0' k3
 have k4:Za [p0] H3 (upd H3 p0 (.dK (putK mm (kS n) v))):=Za.put g0' True.intro
 have k04:=k03.step1 k4 f0
 have g:upd H3 p0 (.dK (putK mm (kS n) v)) p0=some (.dK (putK mm (kS n) v)):=Y8
 generalize upd H3 p0 (.dK (putK mm (kS n) v))=H4 at k04 g k4
 row_readAll go
 refine Zh5 (P:=ZbE P n b) ⟨_,g,(r4.mono fun v b i=>i.mono k04).put Zak (iv.mono k04)⟩ ok fun a' fp' H5 y k5=>?_
 exact q a' fp' H5 y (k04.trans k5)
def Zao(K:YA)(CP:YD):Sp:=fun vs H Q _=>∃ a P fp b P' fp',vs=[.ref a,.ref b]∧ZH K H CP a P fp∧ZH K H CP b P' fp'∧(P.map (·.1)).Nodup∧P.length ≤ 8∧P'.length ≤ 8∧Zbw (Zax P P')∧∀ a' fp' H',ZH K H' CP a' (Zt (Zax P P')) fp'→Za [] H H'→Q (.ref a') H'
def Zbn(K:YA)(CP:YD):TS:=(Xh (tMake CP (Zf K CP) [] E0 (YT (Zr1 (SlX.tSl K (YS 0) "own_blocks") (SlX.tSl K (YS 1) "own_blocks")) YZ)))
def Zf8:List Str:=["self", "other"]
theorem ZeW{K:YA}{CP p1 p2:YD}(T:Zd9 K CP p1 p2)(vs:List V)(H:Hp)(Q:VK)(E:XK)(h:Zao K CP vs H Q E):Zbn K CP { nx:=fun _ H'=>Q .non H',rt:=Q } (start Zf8 vs) H:=by
 obtain⟨a,P,fp,b,P',fp',rfl,x,x',nd,few,few',ok,q⟩:=h
 show Zbn K CP _ [some (.ref a),some (.ref b)] H
 unfold Zbn
 obtain⟨dx,nl,d,rfl,h1,h2,h3,h4⟩:=x.ex
 obtain⟨mm,g4,r4⟩:=h4
 obtain⟨dx',nl',d',rfl,h1',h2',h3',h4'⟩:=x'.ex
 obtain⟨mm',g4',r4'⟩:=h4'
 have lm:=r4.length
 have lm':=r4'.length
 row_readAll go
 rw[Zsh]
 intro p0 f0
 row_readAll go
 have k0:Za [] H (upd H p0 (.dK [])):=Za.new f0
 have g40:=k0.obj _ _ Ya g4
 have s0:Slt (upd H p0 (.dK [])) a CP dx [some (.ref d),some (.ref nl)]:=Slt.keep (b:=.own 0) h1 k0 Ya Ya
 refine⟨a,CP,dx,p2,_,_,_,rfl,s0,T.c,T.s2,rfl,?_⟩
 have em:=Zhs r4 nd
 have dp0:d≠p0:=fun z=>by rw[z,f0]at g4; cases g4
 have dp0':d'≠p0:=fun z=>by rw[z,f0]at g4'; cases g4'
 refine⟨d,mm,rfl,dp0,g40,Y8,by omega,?_⟩
 rw[em]
 have k1:Za [p0] (upd H p0 (.dK [])) (upd (upd H p0 (.dK [])) p0 (.dK mm)):=Za.put Y8 True.intro
 have k01:Za [] H (upd (upd H p0 (.dK [])) p0 (.dK mm)):=k0.step1 k1 f0
 have g0:upd (upd H p0 (.dK [])) p0 (.dK mm) p0=some (.dK mm):=Y8
 generalize upd (upd H p0 (.dK [])) p0 (.dK mm)=H2 at k01 g0 k1
 row_readAll go
 have s2:Slt H2 b CP dx' [some (.ref d'),some (.ref nl')]:=Slt.keep (b:=.own 0) h1' k01 Ya Ya
 refine⟨b,CP,dx',p2,_,_,_,rfl,s2,T.c,T.s2,rfl,?_⟩
 refine⟨d',mm',rfl,dp0',k01.obj _ _ Ya g4',g0,by omega,?_⟩
 have k4:Za [p0] H2 (upd H2 p0 (.dK (mergeK mm mm'))):=Za.put g0 True.intro
 have k04:=k01.step1 k4 f0
 have g:upd H2 p0 (.dK (mergeK mm mm')) p0=some (.dK (mergeK mm mm')):=Y8
 generalize upd H2 p0 (.dK (mergeK mm mm'))=H4 at k04 g k4
 row_readAll go
 refine Zh5 (P:=Zax P P') ⟨_,g,ZlU (r4'.mono fun v b i=>i.mono k04) (r4.mono fun v b i=>i.mono k04)⟩ ok fun a' fp' H5 y k5=>?_
 exact q a' fp' H5 y (k04.trans k5)
def unk(ns:List Str)(P:Prg):Option Str:=ns.find? fun n=>(valA P n).isNone
def Zht(P:Prg)(ns:List Str):Prg:=P.filter fun x=>!decide (x.1∈ns)
theorem Zoo{C:YD}{fs:List Str}{ta:TA}{σ:L2.St}{H:Hp}{Q:XK}:Zox C fs ta σ H Q=ta σ H fun zs H1=>zs.length=fs.length∧zs.length ≤ 1000∧∀ d,H1 d=none→Q (.ref C) (some d) (upd H1 d (.xd (fs.zip zs).reverse)):=rfl
def Z7(K:YA)(CP CU:YD)(W:WX):TS:=(Y9 (tFor (ZjT K (YS 1)) (Y4 2) (Xi (tB (tOp rNotInD (YS 2) (SlX.tSl K (YS 0) "own_blocks"))) (fun _ σ H=>Zox CU ["module"] (YT (YS 2) YZ) σ H fun cls d H1=>W cls d σ H1) Xo))
 (Xh (tMake CP (Zf K CP) [] E0 (YT (tDc (ZjT K (SlX.tSl K (YS 0) "own_names")) (Y4 2) (Xc (tOp (ZcI K) (YS 2) (YS 1))) (YS 2) (tOp rIxD (SlX.tSl K (YS 0) "own_blocks") (YS 2)) [2]) YZ))))
def ZcY:List Str:=["self", "names", "name"]
theorem Zf1{K:YA}{CP CU p1 p2 a t:YD}(T:Zd9 K CP p1 p2){W:WX}{D:Ends}{P:Prg}{fp:List YD}{ns:List Str}{H:Hp}(x:ZH K H CP a P fp)(ht:SqT K H t (ns.map V.str))(ok:Zbw P)(few:ns.length ≤ 1000)
  (no:∀ n,unk ns P=some n→∀ d σ' H',Za [] H H'→H' d=some (.xd [("module",.str n)])→W (.ref CU) (some d) σ' H')
  (yes:unk ns P=none→∀ a' fp' H',ZH K H' CP a' (Zt (Zht P ns)) fp'→Za [] H H'→D.rt (.ref a') H') :
  Z7 K CP CU W D [some (.ref a),some (.ref t),none] H:=by
 unfold Z7
 have sl:=ZaF
 obtain⟨dx,nl,d,rfl,h1,h2,h3,h4⟩:=x.ex
 obtain⟨mm,g4,r4⟩:=h4
 have lm:=r4.length
 have fewP:=ok.few
 row_readAll go
 refine .inr ⟨⟨_,ht⟩,?_⟩
 refine Zg6 (S:=[]) (Wk.tup ht) (fun i σ' H'=>∃ o2,σ'=[some (.ref a),some (.ref t),o2]∧Za [] H H'∧∀ y∈ns.take i,(valA P y).isSome) (fun _ _ _ p=>by obtain⟨_,_,p,_⟩:=p; exact p) ⟨none,rfl,Za.refl _ _,by simp⟩ ?_ ?_
 ·rintro i v σ' H2 H3 hv ⟨o2,rfl,k2,ai⟩ k3
  obtain⟨n,hn,rfl⟩:=get_map hv
  have k23:=k2.trans k3
  row_readAll go
  refine⟨a,CP,dx,p2,_,_,_,rfl,Slt.keep (b:=.own 0) h1 k23 Ya Ya,T.c,T.s2,rfl,?_⟩
  refine Zg7 (k23.obj _ _ Ya g4) ?_
  rcases r4.val Zak n with⟨e1,e2⟩ | ⟨v,b',e1,e2,e3⟩
  ·rw[show valV mm (.inr n)=none from e1]
   simp only[Option.isSome_none,Bool.not_false]
   row_readAll go
   rw[Zoo]
   row_readAll go
   refine⟨by decide,fun d' fd=>?_⟩
   have hu:unk ns P=some n:=by
    unfold unk
    rw[List.find?_eq_some_iff_getElem]
    obtain⟨hi,en⟩:=Yk.mp hn
    refine⟨by rw[e2]; rfl,i,hi,en,fun j hj=>?_⟩
    have:=ai (ns[j]'(by omega)) (by
     rw[List.mem_take_iff_getElem]
     exact⟨j,by omega,rfl⟩)
    cases z:valA P (ns[j]'(by omega))with
    | none=>rw[z]at this; cases this
    | some _=>rfl
   exact no n hu d' _ _ (k23.trans (Za.new fd)) Y8
  ·rw[show valV mm (.inr n)=some v from e1]
   simp only[Option.isSome_some,Bool.not_true]
   row_readAll go
   refine⟨_,rfl,k23,fun y hy=>?_⟩
   rw[take_snoc hn]at hy
   rcases Yh.mp hy with hy | hy
   ·exact ai y hy
   ·rw[Ye.mp hy,e2]; rfl
 ·rintro σ' H2 ⟨o2,rfl,k2,ai⟩
  rw[Yb,Yt]at ai
  have hu:unk ns P=none:=by
   unfold unk
   rw[List.find?_eq_none]
   intro y hy
   have:=ai y hy
   cases z:valA P y with
   | none=>rw[z]at this; cases this
   | some _=>simp
  row_readAll go
  have s2:=Slt.keep (b:=.own 0) h1 k2 Ya Ya
  refine⟨a,CP,dx,p1,_,_,_,rfl,s2,T.c,T.s1,rfl,?_⟩
  have g3:=k2.obj _ _ Ya h3
  refine⟨nl,rfl,.inl ⟨⟨_,SqL.of g3⟩,?_⟩⟩
  refine Zll (S:=[]) (Wk.lst (SqL.of g3) Ya) (fun D i H6=>Za [] H2 H6∧ZK K H6 D (Zht (P.take i) ns)) (fun D i H6 p=>p.1) (fun D H6 _ k6 g6=>⟨k6,[],g6,by simpa[Zht]using .nil⟩) ?_ ?_
  ·rintro Da i H6 x H7 fD hx ⟨k6,mD,gD,rD⟩ k7
   obtain⟨n,hn,rfl⟩:=get_map hx
   obtain⟨z,hz,rfl⟩:=get_map hn
   have mz:=Yj hz
   have k67:=k6.trans k7
   have k27:=k2.trans k67
   have hi:=ZeF hz
   row_readAll go
   refine Zo9 (k27.sqT ht) ?_
   refine⟨_,rfl,?_⟩
   rw[take_snoc hz]
   have eo:Zht (P.take i++[z]) ns=Zht (P.take i) ns++if z.1∈ns then[]else[z]:=by
    unfold Zht
    rw[List.filter_append]
    congr 1
    by_cases h:z.1∈ns <;> simp[h]
   rw[eo]
   by_cases h:z.1∈ns
   ·rw[if_pos h,List.append_nil]
    simp only[h,decide_true,Bool.not_true,Bool.false_eq_true,if_false]
    exact⟨k67,mD,k7.obj _ _ Ya gD,rD.mono fun v b i=>i.mono k7⟩
   ·rw[if_neg h]
    simp only[h,decide_false,Bool.not_false,if_true]
    row_readAll go
    refine⟨a,CP,dx,p2,_,_,_,rfl,Slt.keep (b:=.own 0) h1 k27 Ya Ya,T.c,T.s2,rfl,?_⟩
    have eP:valA P z.1=some z.2:=Zab ok.nd mz
    obtain⟨v,b',e1,e2,e3⟩:∃ v b',valV mm (kS z.1)=some v∧valA P z.1=some b'∧ZkE K H v b':=by
     rcases r4.val Zak z.1 with⟨_,e2⟩ | ⟨v,b',e1,e2,e3⟩
     ·rw[eP]at e2; cases e2
     ·exact⟨v,b',e1,e2,e3⟩
    rw[eP]at e2
    cases e2
    refine ZhD (k27.obj _ _ Ya g4) e1 ?_
    have lD:=rD.length
    have lo:(Zht (P.take i) ns).length ≤ P.length:=Nat.le_trans (List.length_filter_le _ _) (by rw[Yu]; omega)
    refine ZsM (k7.obj _ _ Ya gD) (by omega) fun H8 k8 g8=>⟨k67.step1 k8 fD,_,g8,?_⟩
    have nn:z.1∉(Zht (P.take i) ns).map (·.1):=by
     intro hm
     obtain⟨y,hy,ey⟩:=Yq.mp hm
     have hy:=(List.mem_filter.mp hy).1
     obtain⟨j,hj,ej⟩:=List.mem_take_iff_getElem.mp hy
     have nd2:=List.pairwise_iff_getElem.mp ok.nd j i (by rw[Yb]; omega) (by rw[Yb]; omega) (by omega)
     rw[List.getElem_map,List.getElem_map]at nd2
     obtain⟨_,ez⟩:=Yk.mp hz
     rw[ej,ez]at nd2
     exact nd2 ey
    have ePut:ZbE (Zht (P.take i) ns) z.1 z.2=Zht (P.take i) ns++[z]:=by
     unfold ZbE
     rw[if_neg]
     intro hh
     rw[List.any_eq_true]at hh
     obtain⟨p,hp2,e⟩:=hh
     exact nn (by rw[← of_decide_eq_true e]; exact Yv (f:=(·.1)) hp2)
    rw[← ePut]
    exact((rD.mono fun v b i=>i.mono k7).put Zak (k:=z.1) (v:=v) (x:=z.2) (e3.mono k27)).mono fun v b i=>i.mono k8
  ·rintro Da H6 fD ⟨k6,dD⟩
   rw[Yb,Yb,Yt]at dD
   row_readAll go
   have okO:Zbw (Zht P ns):=⟨(List.Nodup.sublist (List.filter_sublist.map _) ok.nd),Nat.le_trans (List.length_filter_le _ _) ok.few,fun x hx=>ok.nm x (List.mem_filter.mp hx).1,fun x hx=>ok.blk x (List.mem_filter.mp hx).1⟩
   refine Zh5 (P:=Zht P ns) dD okO fun a' fp' H7 y k7=>?_
   exact yes hu a' fp' H7 y ((k2.trans k6).trans k7)
def ZgK(K:YA)(CP CU:YD):Sp:=fun vs H Q E=>∃ a t P fp ns,vs=[.ref a,.ref t]∧ZH K H CP a P fp∧SqT K H t (ns.map V.str)∧Zbw P∧ns.length ≤ 1000 ∧
 (∀ n,unk ns P=some n→∀ d H',Za [] H H'→H' d=some (.xd [("module",.str n)])→E (.ref CU) (some d) H') ∧
 (unk ns P=none→∀ a' fp' H',ZH K H' CP a' (Zt (Zht P ns)) fp'→Za [] H H'→Q (.ref a') H')
def ZgL(K:YA)(CP:YD):Sp:=fun vs H Q _=>∃ a t P fp ns,vs=[.ref a,.ref t]∧ZH K H CP a P fp∧SqT K H t (ns.map V.str)∧Zbw P∧ns.length ≤ 1000 ∧
 unk ns P=none∧(∀ a' fp' H',ZH K H' CP a' (Zt (Zht P ns)) fp'→Za [] H H'→Q (.ref a') H')
def ZlV(n:Nat)(sp:Sp):Sp:=fun vs H Q E=>∃ ws rest,vs=ws++rest∧ws.length=n∧rest.length ≤ YK∧∀ p,H p=Option.none→sp (ws++[V.ref p]) (upd H p (.tup rest)) Q E
def Zbv(K:YA)(CP CU:YD):Sp:=ZlV 1 (ZgK K CP CU)
def ZbU(K:YA)(CP:YD):Sp:=ZlV 1 (ZgL K CP)
theorem Zh6{K:YA}{CP CU p1 p2:YD}(T:Zd9 K CP p1 p2)(vs:List V)(H:Hp)(Q:VK)(E:XK)(h:ZgK K CP CU vs H Q E):Z7 K CP CU (w0 E) { nx:=fun _ H'=>Q .non H',rt:=Q } (start ZcY vs) H:=by
 obtain⟨a,t,P,fp,ns,rfl,x,ht,ok,few,no,yes⟩:=h
 exact Zf1 T x ht ok few (fun n hn d σ' H' k g=>no n hn d H' k g) yes
theorem Zh7{K:YA}{CP CU p1 p2:YD}(T:Zd9 K CP p1 p2)(vs:List V)(H:Hp)(Q:VK)(E:XK)(h:ZgL K CP vs H Q E):Z7 K CP CU (fun _ _ _ _=>False) { nx:=fun _ H'=>Q .non H',rt:=Q } (start ZcY vs) H:=by
 obtain⟨a,t,P,fp,ns,rfl,x,ht,ok,few,hu,yes⟩:=h
 exact Zf1 T x ht ok few (fun n hn=>by rw[hu]at hn; cases hn) fun _=>yes
theorem ZiS{K:YA}{CP CU a:YD}{P:Prg}{fp:List YD}{ns:List Str}{H:Hp}{Q:VK}{E:XK}(x:ZH K H CP a P fp)(ok:Zbw P)(few:ns.length ≤ 1000)
  (no:∀ n,unk ns P=some n→∀ d H',Za [] H H'→H' d=some (.xd [("module",.str n)])→E (.ref CU) (some d) H')
  (yes:unk ns P=none→∀ a' fp' H',ZH K H' CP a' (Zt (Zht P ns)) fp'→Za [] H H'→Q (.ref a') H'):Zbv K CP CU (.ref a :: ns.map V.str) H Q E:=by
 refine⟨[.ref a],ns.map V.str,rfl,rfl,by rw[Yb,ZaF]; omega,fun p hp=>?_⟩
 have k:Za [] H (upd H p (.tup (ns.map V.str))):=Za.new hp
 exact⟨a,p,P,fp,ns,rfl,x.k0 k,.inl (.inl Y8),ok,few,fun n hn d H' k' g=>no n hn d H' (k.trans k') g,fun hn a' fp' H' y k'=>yes hn a' fp' H' y (k.trans k')⟩
theorem Zhu{K:YA}{CP a:YD}{P:Prg}{fp:List YD}{ns:List Str}{H:Hp}{Q:VK}{E:XK}(x:ZH K H CP a P fp)(ok:Zbw P)(few:ns.length ≤ 1000)(hu:unk ns P=none)
  (yes:∀ a' fp' H',ZH K H' CP a' (Zt (Zht P ns)) fp'→Za [] H H'→Q (.ref a') H'):ZbU K CP (.ref a :: ns.map V.str) H Q E:=by
 refine⟨[.ref a],ns.map V.str,rfl,rfl,by rw[Yb,ZaF]; omega,fun p hp=>?_⟩
 have k:Za [] H (upd H p (.tup (ns.map V.str))):=Za.new hp
 exact⟨a,p,P,fp,ns,rfl,x.k0 k,.inl (.inl Y8),ok,few,hu,fun a' fp' H' y k'=>yes a' fp' H' y (k.trans k')⟩
def ZsS(n:Str)(CU:YD)(H:Hp)(E:XK):Prop:=∀ d H',Za [] H H'→H' d=some (.xd [("module",.str n)])→E (.ref CU) (some d) H'
def ZA(K:YA)(CP CU:YD):Sp:=fun vs H _ E=>∃ a n P fp,vs=[.ref a,.str n]∧ZH K H CP a P fp∧valA P n=none∧ZsS n CU H E
def Zaa(K:YA)(CU:YD)(W:WX):TS:=(Y9 (Xi (tB (tOp rNotInD (YS 1) (SlX.tSl K (YS 0) "own_blocks"))) (fun _ σ H=>Zox CU ["module"] (YT (YS 1) YZ) σ H fun cls d H1=>W cls d σ H1) Xo)
 (Xh (tOp rIxD (SlX.tSl K (YS 0) "own_blocks") (YS 1))))
def Zdk:List Str:=["self", "at"]
theorem ZcM{K:YA}{CP CU p1 p2:YD}(T:Zd9 K CP p1 p2)(vs:List V)(H:Hp)(Q:VK)(E:XK)(h:ZA K CP CU vs H Q E):Zaa K CU (w0 E) { nx:=fun _ H'=>Q .non H',rt:=Q } (start Zdk vs) H:=by
 obtain⟨a,n,P,fp,rfl,x,hn,q⟩:=h
 show Zaa K CU _ _ [some (.ref a),some (.str n)] H
 unfold Zaa
 obtain⟨dx,nl,d,rfl,h1,h2,h3,m,h4,r4⟩:=x.ex
 row_readAll go
 refine⟨a,CP,dx,p2,_,_,_,rfl,h1,T.c,T.s2,rfl,?_⟩
 refine Zg7 h4 ?_
 rcases r4.val Zak n with⟨e1,_⟩ | ⟨v,b',e1,e2,e3⟩
 ·rw[show valV m (.inr n)=none from e1]
  simp only[Option.isSome_none,Bool.not_false]
  row_readAll go
  rw[Zoo]
  row_readAll go
  exact⟨by decide,fun d' fd=>q d' _ (Za.new fd) Y8⟩
 ·rw[hn]at e2; cases e2
def ZE(K:YA)(CP CU:YD):Sp:=fun vs H _ E=>∃ a n P fp,vs=[.ref a,.str n]∧ZH K H CP a P fp∧valA P n=none∧ZsS n CU H E
def Zaf(K:YA)(CU:YD)(W:WX):TS:=(Y9 (Xi (tB (tOp rNotInD (YS 1) (SlX.tSl K (YS 0) "own_blocks"))) (fun _ σ H=>Zox CU ["module"] (YT (YS 1) YZ) σ H fun cls d H1=>W cls d σ H1) Xo)
 (Xh (Xm (Zk K 10) [] E0 (YT (tOp rIxD (SlX.tSl K (YS 0) "own_blocks") (YS 1)) (YT (Zs K YZ) YZ)))))
def ZdR:List Str:=["self", "name"]
theorem ZcZ{K:YA}{CP CU p1 p2:YD}(T:Zd9 K CP p1 p2)(vs:List V)(H:Hp)(Q:VK)(E:XK)(h:ZE K CP CU vs H Q E):Zaf K CU (w0 E) { nx:=fun _ H'=>Q .non H',rt:=Q } (start ZdR vs) H:=by
 obtain⟨a,n,P,fp,rfl,x,hn,q⟩:=h
 show Zaf K CU _ _ [some (.ref a),some (.str n)] H
 unfold Zaf
 obtain⟨dx,nl,d,rfl,h1,h2,h3,m,h4,r4⟩:=x.ex
 row_readAll go
 refine⟨a,CP,dx,p2,_,_,_,rfl,h1,T.c,T.s2,rfl,?_⟩
 refine Zg7 h4 ?_
 rcases r4.val Zak n with⟨e1,_⟩ | ⟨v,b',e1,e2,e3⟩
 ·rw[show valV m (.inr n)=none from e1]
  simp only[Option.isSome_none,Bool.not_false]
  row_readAll go
  rw[Zoo]
  row_readAll go
  exact⟨by decide,fun d' fd=>q d' _ (Za.new fd) Y8⟩
 ·rw[hn]at e2; cases e2
theorem Zop{C:YD}{sp:Sp}{W:WX}{ta:TE}{t:TA}{σ:L2.St}{H:Hp}{Q:VK}:ZcB C sp W ta t σ H Q=ta σ H fun x H1=>∃ a dx vs,x = .ref a∧SlX.Slt H1 a C dx vs∧t σ H1 fun ws H2=>sp (x :: ws) H2 Q (WE W σ):=rfl
theorem Zsi{C:YD}{sp:Sp}{W:WX}{ta tb:TE}{σ:L2.St}{H:Hp}{Q:VK}:ZqY C sp W ta tb σ H Q=ta σ H fun x H1=>tb σ H1 fun y H2=>∃ a dx vs,x = .ref a∧Slt H2 a C dx vs∧sp [x,y] H2 Q (WE W σ):=rfl
theorem Zoq{a C:YD}{cls:YG}{d:Option YD}{f:Str}{te:TE}{σ:L2.St}{H:Hp}{Q:VK}:tXf a cls d C f te σ H Q=te σ H fun x H1=>x = .ref a∧cls = .ref C∧∃ (dd:YD) (fs:List (Str×V)) (v:V),d=some dd∧H1 dd=some (.xd fs)∧fs.lookup f=some v∧Q v H1:=rfl
def Zqw:Option Str→V
 | some n=>.str n
 | none=>.non
def Zag(K:YA)(CP:YD):Sp:=fun vs H Q _=>∃ a l P fp ns,vs=[.ref a,.ref l]∧ZH K H CP a P fp∧Zbw P∧H l=some (.lst (ns.map V.str))∧(ns.length=1∨ns.length=2)∧∀ H',Za [] H H'→Q (Zqw (unk ns P)) H'
def Zcl(K:YA)(CP CU:YD)(W:WX):TS:=(Y9 (Xk (tC .non) (Y4 2))
 (Y9 (fun D σ H=>(fun W:WX=>(Xi (Xc (tOp (ZbH K) (tCB (rLen K) (YT (YS 1) YZ)) (tC (.int 1)))) (Xn (ZcB CP (Zbv K CP CU) W (YS 0) (YT (tOp (rIx K) (YS 1) (tC (.int 0))) YZ))) (Xn (ZcB CP (Zbv K CP CU) W (YS 0) (YT (tOp (rIx K) (YS 1) (tC (.int 0))) (YT (tOp (rIx K) (YS 1) (tC (.int 1))) YZ)))))) ((ZrL K (.ref CU) 3 (fun a cls d=>(Xk (tXf a cls d CU "module" (YS 3)) (Y4 2))) (fun _=>W)) D) D σ H)
 (Xh (YS 2))))
def Zh8:List Str:=["_law_program_here", "_law_names_here", "_law_told", "error"]
theorem Zf9{K:YA}{CP CU:YD}(xx:PySem.W.exmOne K (.ref CU) (.ref CU)=some true)(vs:List V)(H:Hp)(Q:VK)(E:XK)(h:Zag K CP vs H Q E):Zcl K CP CU (fun _ _ _ _=>False) { nx:=fun _ H'=>Q .non H',rt:=Q } (start Zh8 vs) H:=by
 obtain⟨a,l,P,fp,ns,rfl,x,ok,hl,few,q⟩:=h
 show Zcl K CP CU _ _ [some (.ref a),some (.ref l),none,none] H
 unfold Zcl
 have sl:=ZaF
 obtain⟨dx,nl,d,efp,s1,_⟩:=x.ex
 row_readAll go
 refine ZcN (SqL.of hl) ?_
 row_readAll go
 rw[Yb]
 rcases few with e | e
 ·obtain⟨n,rfl⟩:=List.length_eq_one_iff.mp e
  row_readAll go
  rw[if_pos (by simp)]
  rw[Zop]
  row_readAll go
  refine⟨a,dx,_,rfl,s1,?_⟩
  row_readAll go
  refine ZaA (SqL.of hl) ZfE ?_
  row_readAll go
  refine ZiS (ns:=[n]) x ok (by simp) (fun n' hn d' H1 k1 g1=>?_) (fun hu a' fp' H1 y k1=>?_)
  ·refine⟨true,xx,fun _ ae fe=>?_,fun z=>nomatch z⟩
   row_readAll go
   rw[Zoq]
   row_readAll go
   refine⟨d',_,.str n',rfl,g1,by rfl,?_⟩
   row_readAll go
   have:=q H1 k1
   rw[hn]at this
   exact this
  ·row_readAll go
   have:=q H1 k1
   rw[hu]at this
   exact this
 ·obtain⟨n,m,rfl⟩:∃ n m,ns=[n,m]:=by
   match ns,e with
   | [n,m],_=>exact⟨n,m,rfl⟩
  row_readAll go
  rw[if_neg (by simp)]
  rw[Zop]
  row_readAll go
  refine⟨a,dx,_,rfl,s1,?_⟩
  row_readAll go
  refine ZaA (SqL.of hl) ZfE ?_
  row_readAll go
  refine ZaA (SqL.of hl) (atI_nat (j:=1) rfl) ?_
  row_readAll go
  refine ZiS (ns:=[n,m]) x ok (by simp) (fun n' hn d' H1 k1 g1=>?_) (fun hu a' fp' H1 y k1=>?_)
  ·refine⟨true,xx,fun _ ae fe=>?_,fun z=>nomatch z⟩
   row_readAll go
   rw[Zoq]
   row_readAll go
   refine⟨d',_,.str n',rfl,g1,by rfl,?_⟩
   row_readAll go
   have:=q H1 k1
   rw[hn]at this
   exact this
  ·row_readAll go
   have:=q H1 k1
   rw[hu]at this
   exact this
def Zbj(K:YA)(CP:YD):Sp:=fun vs H Q _=>∃ a n P fp,vs=[.ref a,.str n]∧ZH K H CP a P fp∧valA P n=none∧PyData.strOk n=true∧∀ H',Za [] H H'→Q (.bl true) H'
def Zcm(K:YA)(CP CU:YD)(W:WX):TS:=(Y9 (Xk (Zbo YZ) (Y4 2))
 (Y9 (tFor (iRng1 (YT (tC (.int 2)) YZ)) (Y4 3) (fun D σ H=>(fun W:WX=>(Xi (Xc (tOp (ZbH K) (YS 3) (tC (.int 0)))) (Xn (tBM K "list" rAppend (YS 2) (YT (ZqY CP (ZA K CP CU) W (YS 0) (YS 1)) YZ))) (Xn (tBM K "list" rAppend (YS 2) (YT (ZcB CP (ZE K CP CU) W (YS 0) (YT (YS 1) YZ)) YZ))))) ((ZrL K (.ref CU) 4 (fun a cls d=>(Xn (tBM K "list" rAppend (YS 2) (YT (tXf a cls d CU "module" (YS 4)) YZ)))) (fun _=>W)) D) D σ H))
 (Xh (tOp (ZbH K) (YS 2) (Zbo (YT (YS 1) (YT (YS 1) YZ)))))))
def Zh9:List Str:=["_law_program_here", "_law_name_here", "_law_told", "_law_way", "error"]
theorem Zf_{K:YA}{CP CU:YD}(xx:PySem.W.exmOne K (.ref CU) (.ref CU)=some true)(vs:List V)(H:Hp)(Q:VK)(E:XK)(h:Zbj K CP vs H Q E):Zcm K CP CU (fun _ _ _ _=>False) { nx:=fun _ H'=>Q .non H',rt:=Q } (start Zh9 vs) H:=by
 obtain⟨a,n,P,fp,rfl,x,hn,so,q⟩:=h
 show Zcm K CP CU _ _ [some (.ref a),some (.str n),none,none,none] H
 unfold Zcm
 have sl:=ZaF
 obtain⟨dx,nl,d,efp,s1,_⟩:=x.ex
 row_readAll go
 refine Zbg (by row_readAll ln) fun pl H1 f1 k1 g1=>?_
 row_readAll go
 refine⟨by decide,by decide,?_⟩
 refine Zg5 (fun i σ' H'=>∃ (o3 o4:Option V),σ'=[some (.ref a),some (.str n),some (.ref pl),o3,o4]∧H' pl=some (.lst (List.replicate i (V.str n)))∧Za [] H H')
  ⟨none,none,rfl,g1,k1⟩ ?_ ?_
 ·rintro i σ' H3 hi ⟨o3,o4,rfl,g3,k3⟩
  have hi:i < 2:=hi
  have x3:=x.k0 k3
  obtain⟨dx3,nl3,d3,efp3,s3,_⟩:=x3.ex
  have fin:∀ (ae:YD) (cls:YG) (dd:YD) (H4:Hp) (o3:Option V),cls = .ref CU→Za [] H3 H4→H4 dd=some (.xd [("module",.str n)])→∀ Q':Hp→Prop,(∀ H5,H5 pl=some (.lst (List.replicate (i + 1) (V.str n)))→Za [] H H5→Q' H5) →
    tXf ae cls (some dd) CU "module" (YS 4) [some (.ref a),some (.str n),some (.ref pl),o3,some (.ref ae)] H4 (fun x H1=>rAppend (.ref pl) [x] H1 fun _ H5=>Q' H5):=by
   intro ae cls dd H4 o3 hc k4 g4 Q' q'
   rw[Zoq]
   row_readAll go
   refine⟨hc,dd,_,.str n,rfl,g4,by rfl,?_⟩
   have gp:=k4.obj _ _ Ya g3
   refine Ze4 gp (by rw[List.length_replicate]; omega) fun H5 k5 g5=>q' H5 ?_ ((k3.trans k4).step1 k5 f1)
   rw[g5,List.replicate_succ']
  row_readAll go
  have te:tyV K "list" (.ref pl) H3:=.inl ⟨rfl,_,SqL.of g3⟩
  by_cases h0:i=0
  ·subst h0
   rw[if_pos (by simp)]
   refine⟨te,?_⟩
   rw[Zsi]
   row_readAll go
   refine⟨a,dx3,_,rfl,s3,a,n,P,fp,rfl,x3,hn,fun dd H4 k4 g4=>?_⟩
   refine⟨true,xx,fun _ ae fe=>?_,fun z=>nomatch z⟩
   row_readAll go
   refine⟨.inl ⟨rfl,_,SqL.of (k4.obj _ _ Ya g3)⟩,?_⟩
   exact fin ae _ dd H4 _ rfl k4 g4 _ fun H5 g5 k5=>⟨_,_,rfl,g5,k5⟩
  ·rw[if_neg (by simp; omega)]
   refine⟨te,?_⟩
   rw[Zop]
   row_readAll go
   refine⟨a,dx3,_,rfl,s3,?_⟩
   row_readAll go
   refine⟨a,n,P,fp,rfl,x3,hn,fun dd H4 k4 g4=>?_⟩
   refine⟨true,xx,fun _ ae fe=>?_,fun z=>nomatch z⟩
   row_readAll go
   refine⟨.inl ⟨rfl,_,SqL.of (k4.obj _ _ Ya g3)⟩,?_⟩
   exact fin ae _ dd H4 _ rfl k4 g4 _ fun H5 g5 k5=>⟨_,_,rfl,g5,k5⟩
 ·rintro σ' H3 ⟨o3,o4,rfl,g3,k3⟩
  row_readAll go
  refine Zbg (by row_readAll ln) fun p4 H4 f4 k4 g4=>?_
  row_readAll go
  have gp:=k4.obj _ _ Ya g3
  have il:∀ {H:Hp} {a:YD},H a=some (.lst [V.str n,V.str n])→Dp K H (.ref a) (.list [.str n,.str n]):=fun g=>.lst (SqL.of g) (.cons (Im.dp (.str n)) (.cons (Im.dp (.str n)) .nil))
  have sh:SeqAt.shaped (.list [.str n,.str n])=true:=by
   rw[Zaz]
   refine⟨by simp[PyData.canLay0,PyData.canLayAll0,so],by simp[PyData.depth,PyData.depthAll]⟩
  refine Zma (il gp) (il g4) sh sh ?_
  rw[SeqAt.eqv_refl _ ((Zaz _).mp sh).1]
  exact q H4 (k3.trans k4)
end M
namespace M
open PySem PySem.Spec PyProof.Rows L2 L2H SlX GenW
theorem ZmR{K:YA}{zs:List PyData}{F0:List YD}{v0 v1 v2 v3 v4 v5 v6:Option V}{H:Hp}{Q:VK}(lz:zs.length ≤ 100000)
  (q:∀ D vs H',H D=none→Za [] H H'→H' D=some (.lst vs)→ImAll K H' vs zs→Q (.ref D) H'):Zqt zs F0 K (Y4 6) tYes (YS 6) [6] [v0,v1,v2,v3,v4,v5,v6] H Q:=by
 intro D fD
 refine⟨fun i H'=>∃ vs,H' D=some (.lst vs)∧ImAll K H' vs (zs.take i)∧Za [] H H',⟨[],Y8,.nil,Za.new fD⟩,?_,?_⟩
 ·rintro i z x H1 H2 hz ⟨vs,g1,i1,k1⟩ k2 ix
  have lv:=i1.length
  have hi:=(Yk.mp hz).1
  rw[Yu]at lv
  have sl:=ZaF
  have g2:=k2.obj _ _ Ya g1
  have kk:Za [D] H2 (upd H2 D (.lst (vs++[x]))):=Za.put g2 True.intro
  refine⟨rfl,?_⟩
  show tYes [v0,v1,v2,v3,v4,v5,some x] H2 _
  row_readAll go
  refine⟨vs,g2,by omega,kk,vs++[x],Y8,?_,(k1.trans k2).step1 kk fD⟩
  rw[take_snoc hz]
  exact((i1.mono k2).mono kk).append (.cons (ix.mono kk) .nil)
 ·rintro H1 H2 ⟨vs,g1,i1,k1⟩ k2
  rw[Yt]at i1
  exact q D vs H2 fD (k1.trans k2) (k2.obj _ _ Ya g1) (i1.mono k2)
theorem ZmS{K:YA}{ws:List V}{rows:List (Pth×Stm)}{nm:Str}{pw:YD}{v0 v1 v2 v3 v4 v6:Option V}{H:Hp}{Q:VK}(g:H pw=some (.lst ws))(ip:ImAll K H ws (rows.map Zgi))(few:rows.length ≤ 100000)
  (q:∀ D vs H',H D=none→Za [] H H'→H' D=some (.lst vs)→ImAll K H' vs (rows.map (ZlJ nm))→Q (.ref D) H') :
  Zkk (Itl K pw) (Y4 6) tYes (Zs K (YT (YS 5) (YT (tOp (rIx K) (YS 6) (tC (.int 0))) (YT (tOp (rIx K) (YS 6) (tC (.int 1))) YZ)))) [6] [v0,v1,v2,v3,v4,some (.str nm),v6] H Q:=by
 have sl:=ZaF
 have lw:=ip.length
 rw[Yb]at lw
 refine Zm6 (S:=[]) (Wk.lst (SqL.of g) Ya) (fun D i H4=>Za [] H H4∧∃ us,H4 D=some (.lst us)∧ImAll K H4 us ((rows.take i).map (ZlJ nm))) (fun _ _ _ p=>p.1) (fun D H4 _ k g=>⟨k,[],g,.nil⟩) ?_ fun D H4 fD ⟨k4,us,g4,i4⟩=>?_
 ·rintro D i H4 v H5 fD hv ⟨k4,us,g4,i4⟩ k5
  obtain⟨d,hd,iv⟩:=ip.get hv
  rw[Ym,Option.map_eq_some_iff]at hd
  obtain⟨z,hz,rfl⟩:=hd
  have k45:=k4.trans k5
  obtain⟨a,xs,rfl,s,al⟩:=(iv.mono k45).of_tup
  obtain⟨x1,_,rfl,i1,al⟩:=al.of_cons
  obtain⟨x2,_,rfl,i2,al⟩:=al.of_cons
  cases al
  have g5:=k5.obj _ _ Ya g4
  have hi:=ZeF hz
  have lu:us.length < 100000:=by rw[i4.length,Yb,Yu]; omega
  refine⟨rfl,?_⟩
  show tYes [v0,v1,v2,v3,v4,some (.str nm),some (.ref a)] H5 _
  row_readAll go
  refine ZV (by row_readAll ln) fun p6 H6 f6 k6 s6=>?_
  row_readAll go
  refine lay (k6.obj _ _ Ya g5) (by omega) fun H7 k7 g7=>⟨(k45.trans k6).step1 k7 fD,_,g7,?_⟩
  rw[take_snoc hz,Yl]
  exact(((i4.mono k5).mono k6).append (.cons (.tup s6 (.cons (.str _) (.cons (i1.mono k6) (.cons (i2.mono k6) .nil)))) .nil)).mono k7
 ·rw[lw,Yt]at i4
  exact q D us H4 fD k4 g4 i4
def ZaQ(K:YA)(CP:YD):Sp:=fun vs H Q _=>∃ a d P R fp,vs=[.ref a,.ref d]∧ZH K H CP a P fp∧ZK K H d R∧R.Perm P∧Zbw P∧Zdg (P.map (·.1))=P.map (·.1)∧(∀ x∈P,depL x.2 ≤ 4∧(walkL [] 0 x.2).length ≤ 200)∧∀ H',Za [] H H'→Q (.bl true) H'
theorem ZgM:∀ {P:Prg} {n:Nat},(∀ x∈P,(walkL [] 0 x.2).length ≤ n)→(ZdP P).length ≤ P.length * n
 | [],n,_=>by simp[ZdP]
 | x :: r,n,h=>by
   rw[Zhn,Yc,Yd,Nat.succ_mul]
   have h1:=h x (by simp)
   have h2:=ZgM (P:=r) fun y hy=>h y (Yf _ hy)
   have h3:(ZkI x).length=(walkL [] 0 x.2).length:=by simp[ZkI]
   omega
theorem Zjo{K:YA}{H:Hp}:∀ l:List Str,ImAll K H (l.map V.str) (l.map PyData.str)
 | []=>.nil
 | x :: r=>.cons (.str x) (Zjo r)
theorem Zjp{K:YA}{CP:YD}(vs:List V)(H:Hp)(Q:VK)(E:XK)(h:ZaQ K CP vs H Q E):Zgj K CP { nx:=fun _ H'=>Q .non H',rt:=Q } (start ZmO vs) H:=by
 obtain⟨a,d,P,R,fp,rfl,x,dp,pm,ok,srt,w,q⟩:=h
 show Zgj K CP _ [some (.ref a),some (.ref d),none,none,none,none,none] H
 unfold Zgj
 have sl:=ZaF
 have few:=ok.few
 have lR:R.length=P.length:=pm.length_eq
 row_readAll go
 obtain⟨m,gm,rm⟩:=dp
 refine ZhL gm rm (by omega) fun ps H1 f1 k1 g1=>?_
 rw[ZeO (pm.map (·.1)),srt]at g1
 row_readAll go
 show ZmI K CP (YS 0) _ _ _
 refine⟨_,rfl,a,P,fp,rfl,x.k0 k1,ok.nd,fun y hy=>⟨(w y hy).1,by have:=(w y hy).2; omega⟩,?_⟩
 have le:=ZgM fun y hy=>(w y hy).2
 refine ZmR (by omega) fun pe es H2 f2 k2 g2 i2=>?_
 row_readAll go
 refine Zbg (by row_readAll ln) fun pw H3 f3 k3 g3=>?_
 row_readAll go
 have g13:=((k2.trans k3).obj _ _ Ya g1)
 refine .inl ⟨⟨_,SqL.of g13⟩,?_⟩
 have k03:Za [] H H3:=(k1.trans k2).trans k3
 have alkB:∀ z∈P,∀ {H:Hp} {x y:V},Im K H x (.tuple (blkD z.2))→Im K H y (.tuple (blkD z.2))→Alk K H 70 x y:=fun z mz _ _ _ ix iy=>ZlR 70 ix iy (Znh (ok.blk z mz)).1 (Znh (ok.blk z mz)).2
 have alkR:∀ z∈P,∀ {H:Hp} {a b:YD} {xs ys:List V},H a=some (.lst xs)→H b=some (.lst ys)→ImAll K H xs ((walkL [] 0 z.2).map Zgi)→ImAll K H ys ((walkL [] 0 z.2).map Zgi)→Alk K H 70 (.ref a) (.ref b):=fun z mz _ _ _ _ _ ga gb ia ib=>by
  refine Zh4 (n:=69) ga gb ia ib (by rw[Yb]; have:=(w z mz).2; omega) fun d hd=>?_
  obtain⟨r,hr,rfl⟩:=Yq.mp hd
  exact Zqv (ok.blk z mz) hr
 refine Zg6 (S:=[]) (Wk.lst (SqL.of g13) Ya) (fun i σ' H'=>∃ (o5 o6:Option V) (pc:YD) (ws:List V),σ'=[some (.ref a),some (.ref d),some (.ref ps),some (.ref pe),some (.ref pc),o5,o6]∧H' pc=some (.lst ws)∧ImAll K H' ws (ZdP (P.take i))∧Za [] H3 H')
  (fun i σ' H' p=>by obtain⟨_,_,_,_,_,_,_,k⟩:=p; exact k) ⟨none,none,pw,[],rfl,g3,.nil,Za.refl _ _⟩ ?_ ?_
 ·rintro i y σ' H4 H5 hx ⟨o5,o6,pc,ws,rfl,gc,iw,k4⟩ k5
  rw[Ym,Option.map_eq_some_iff]at hx
  obtain⟨nm,hz,rfl⟩:=hx
  rw[Ym,Option.map_eq_some_iff]at hz
  obtain⟨z,hz,rfl⟩:=hz
  have mz:=Yj hz
  have k05:Za [] H H5:=(k03.trans k4).trans k5
  obtain⟨m5,gm5,rm5⟩:=ZK.k0 ⟨m,gm,rm⟩ k05
  have ndR:(R.map (·.1)).Nodup:=(pm.map (·.1)).nodup_iff.mpr ok.nd
  have va:valA R z.1=some z.2:=Zab ndR (pm.mem_iff.mpr mz)
  obtain⟨v,e1,iv⟩:∃ v,valV m5 (kS z.1)=some v∧ZkE K H5 v z.2:=by
   rcases rm5.val Zak z.1 with⟨_,n⟩ | ⟨v,b,e1,e2,rv⟩
   ·rw[va]at n; cases n
   ·rw[va]at e2; cases e2; exact⟨v,e1,rv⟩
  obtain⟨wd,wl⟩:=w z mz
  row_readAll go
  refine ZhD gm5 e1 ?_
  row_readAll go
  refine ZV (by row_readAll ln) fun pt H6 f6 k6 s6=>?_
  row_readAll go
  refine⟨v,pt,z.2,[],rfl,iv.mono k6,.tup s6 .nil,by omega,by omega,by simp,fun pr rs H7 f7 k7 g7 i7=>?_⟩
  row_readAll go
  refine .inl ⟨⟨_,SqL.of g7⟩,?_⟩
  refine ZmS g7 i7 (by omega) fun pn ns H8 f8 k8 g8 i8=>?_
  have k58:Za [] H5 H8:=(k6.trans k7).trans k8
  row_readAll go
  have lw:ws.length ≤ 1600:=by
   have h1:=iw.length
   have h2:=ZgM (P:=P.take i) (n:=200) fun y hy=>(w y (List.mem_of_mem_take hy)).2
   rw[Yu]at h2
   have:min i P.length * 200 ≤ 8 * 200:=Nat.mul_le_mul_right _ (by omega)
   omega
  have ln8:ns.length ≤ 200:=by rw[i8.length,Yb]; exact wl
  refine ZkR (k58.obj _ _ Ya (k5.obj _ _ Ya gc)) g8 (by omega) fun pc2 H9 f9 k9 g9=>?_
  row_readAll go
  have k59:Za [] H5 H9:=k58.trans k9
  have x9:=(x.k0 k05).k0 k59
  obtain⟨dx',nl1',d1',_,s1',_⟩:=x9.ex
  have vP:valA P z.1=some z.2:=Zab ok.nd mz
  refine⟨a,dx',_,rfl,s1',a,z.1,P,fp,z.2,rfl,x9,vP,fun u2 i2=>?_⟩
  row_readAll go
  refine ZhD (k59.obj _ _ Ya gm5) e1 ?_
  row_readAll go
  have iv9:=iv.mono k59
  refine⟨u2,v,rfl,alkB z mz i2 iv9,fun H10 k10=>?_⟩
  row_readAll go
  have x10:=x9.k0 k10
  obtain⟨dx2,nl2,d2,_,s2,_⟩:=x10.ex
  simp only[Zfq]
  row_readAll go
  refine⟨a,dx2,_,rfl,s2,a,z.1,P,fp,z.2,rfl,x10,vP,wd,by omega,fun q1 w1 H11 f11 k11 g11 i11=>?_⟩
  row_readAll go
  have kx:Za [] H5 H11:=(k59.trans k10).trans k11
  refine ZhD (kx.obj _ _ Ya gm5) e1 ?_
  row_readAll go
  refine ZV (by row_readAll ln) fun pt2 H12 f12 k12 s12=>?_
  row_readAll go
  refine⟨v,pt2,z.2,[],rfl,(iv.mono kx).mono k12,.tup s12 .nil,by omega,by omega,by simp,fun q2 w2 H13 f13 k13 g13b i13=>?_⟩
  row_readAll go
  refine⟨.ref q1,.ref q2,rfl,alkR z mz ((k12.trans k13).obj _ _ Ya g11) g13b (i11.mono (k12.trans k13)) i13,fun H14 k14=>?_⟩
  row_readAll go
  have kz:Za [] H9 H14:=(((k10.trans k11).trans k12).trans k13).trans k14
  have x14:=x9.k0 kz
  obtain⟨dx4,nl4,d4,_,s4,_⟩:=x14.ex
  refine⟨a,dx4,_,rfl,s4,a,z.1,P,fp,rfl,x14,true,by rw[vP]; rfl,?_⟩
  refine⟨true,true,rfl,rfl,?_⟩
  refine⟨false,rfl,?_⟩
  rw[if_neg (by decide)]
  refine⟨_,_,pc2,ws++ns,rfl,kz.obj _ _ Ya g9,?_,(k4.trans k5).trans (k59.trans kz)⟩
  rw[take_snoc hz]
  have e:ZdP (P.take i++[z])=ZdP (P.take i)++ZkI z:=by simp[ZdP]
  rw[e]
  exact(((iw.mono k5).mono k59).mono kz).append (i8.mono (k9.trans kz))
 ·rintro σ' H4 ⟨o5,o6,pc,ws,rfl,gc,iw,k4⟩
  rw[Yb,Yb,Yt]at iw
  have k04:=k03.trans k4
  have x4:=x.k0 k04
  obtain⟨dx4,nl4,d4,_,s4,_⟩:=x4.ex
  row_readAll go
  simp only[Zfq]
  row_readAll go
  refine⟨a,dx4,_,rfl,s4,a,P,fp,rfl,x4,fun q1 H5 f5 k5 g5=>?_⟩
  row_readAll go
  refine⟨.ref q1,.ref ps,rfl,Zh4 (n:=69) g5 ((k4.trans k5).obj _ _ Ya g13) (Zjo _) (Zjo _) (by rw[Yb,Yb]; omega) (fun d hd=>?_),fun H6 k6=>?_⟩
  ·obtain⟨x,_,rfl⟩:=Yq.mp hd
   exact⟨by simp[PyData.depth],Zau _ _⟩
  row_readAll go
  have kw:=k5.trans k6
  refine⟨.ref pe,.ref pc,rfl,Zh4 (n:=69) (((k3.trans k4).trans kw).obj _ _ Ya g2) (kw.obj _ _ Ya gc) (i2.mono ((k3.trans k4).trans kw)) (iw.mono kw) (by have:=few; have:P.length * 200 ≤ 8 * 200:=Nat.mul_le_mul_right _ few; omega) (fun d hd=>?_),fun H7 k7=>?_⟩
  ·unfold ZdP at hd
   obtain⟨z,hz,hd⟩:=List.mem_flatMap.mp hd
   obtain⟨r,hr,rfl⟩:=Yq.mp hd
   exact Zon (ok.blk z hz) z.1 hr
  row_readAll go
  have k57:=kw.trans k7
  have k7a:=k04.trans k57
  have x7:=x.k0 k7a
  obtain⟨dx7,nl7,d7,_,s7,_⟩:=x7.ex
  refine⟨a,dx7,_,rfl,s7,a,P,fp,rfl,x7,P.length,rfl,by omega,?_⟩
  refine ZcN (SqL.of ((k4.trans k57).obj _ _ Ya g13)) ?_
  rw[Yb,Yb]
  refine⟨.int (P.length:Nat),.int (P.length:Nat),rfl,.inl ⟨rfl,rfl⟩,fun H8 k8=>?_⟩
  exact q H8 (k7a.trans k8)
end M
namespace M
open PySem PySem.Spec PyProof.Rows L2 L2H SlX
def ZbC(K:YA):Sp:=fun vs H Q _=>∃ h c d P,vs=[.ref h,.ref d]∧Drw H h c∧ZK K H d P∧(P.map (·.1)).Nodup∧P.length ≤ 8∧d≠h∧d≠c ∧
 ∀ p P' H',P'.Perm P→ZK K H' p P'→H p=none→Za [h,c] H H'→Drw H' h c→Q (.ref p) H'
def ZcE(K:YA)  : TS:=(Y9 (tPar 3 4 (YT (tCB rListD (YT (YS 1) YZ)) (YT Zio YZ)))
 (Y9 (tFor (iRng1 (YT (tCB (rLen K) (YT (YS 3) YZ)) YZ)) (Y4 2) (Y9 (Xk (tBM K "list" rPopAt (YS 3) (YT (Xm (Zb K) [] E0 (YT (YS 0) (YT (tCB (rLen K) (YT (YS 3) YZ)) YZ))) YZ)) (Y4 5))
 (Xk (tOp rIxD (YS 1) (YS 5)) (gSub (YS 4) (YS 5) rSetD))))
 (Xh (YS 4))))
def ZiT:List Str:=["_law_h", "_law_found", "_law_k", "_law_left", "_law_turned_here", "_law_name_here"]
theorem ZiU{x:Str}:∀ {L:List Str} {i:Nat},L[i]? = some x→L.Perm (x :: L.eraseIdx i)
 | y :: r,0,h=>by
   rw[List.getElem?_cons_zero]at h
   cases h
   exact List.Perm.refl _
 | y :: r,i + 1,h=>by
   rw[List.getElem?_cons_succ]at h
   exact((ZiU h).cons y).trans (List.Perm.swap x y _)
theorem ZiV:∀ (L:List Str) (n:Nat),(L.map V.str).eraseIdx n=(L.eraseIdx n).map V.str
 | [],_=>rfl
 | y :: r,0=>rfl
 | y :: r,n + 1=>by
   show V.str y :: (r.map V.str).eraseIdx n=V.str y :: (r.eraseIdx n).map V.str
   rw[ZiV r n]
theorem Zhv{P:Prg}(nd:(P.map (·.1)).Nodup):P.Nodup:=List.Pairwise.of_map (R:=(·≠·)) (S:=(·≠·)) (fun p:Str×List Stm=>p.1) (fun a b h e=>h (by rw[e])) nd
theorem ZmT{P R:Prg}(nd:(P.map (·.1)).Nodup)(k:(R.map (·.1)).Perm (P.map (·.1)))(s:∀ x∈R,x∈P):R.Perm P:=by
 have ndR:(R.map (·.1)).Nodup:=k.nodup_iff.mpr nd
 refine(List.perm_ext_iff_of_nodup (Zhv ndR) (Zhv nd)).mpr fun x=>⟨s x,fun hx=>?_⟩
 obtain⟨y,hy,e⟩:=Yq.mp (k.mem_iff.mpr (Yv (f:=(·.1)) hx))
 have e1:=Zab (k:=y.1) (v:=y.2) nd (s y hy)
 have e2:=Zab (k:=x.1) (v:=x.2) nd hx
 rw[e,e2]at e1
 have e3:x.2=y.2:=Option.some.inj e1
 have:y=x:=by cases x; cases y; simp_all
 rw[← this]; exact hy
theorem ZgN{K:YA}(vs:List V)(H:Hp)(Q:VK)(E:XK)(h:ZbC K vs H Q E):ZcE K { nx:=fun _ H'=>Q .non H',rt:=Q } (start ZiT vs) H:=by
 obtain⟨h,c,d,P,rfl,D,dp,nd,lP,dh,dc,q⟩:=h
 show ZcE K _ [some (.ref h),some (.ref d),none,none,none,none] H
 unfold ZcE
 have sl:=ZaF
 row_readAll go
 obtain⟨m,gm,rm⟩:=dp
 have km:=rm.keys
 refine⟨d,m,rfl,Rd.of gm,fun pl H1 f1 k1 g1=>?_⟩
 rw[show m.map (fun kv=>kV kv.1)=(P.map (·.1)).map V.str from by
  have e:m.map (fun kv=>kV kv.1)=(m.map (·.1)).map kV:=by rw[Yx]; rfl
  rw[e,km,Yx,Yx]; rfl]at g1
 row_readAll go
 refine Zm8 fun pd H2 f2 k2 g2=>?_
 row_readAll go
 refine ZcN (SqL.of (k2.obj _ _ Ya g1)) ?_
 row_readAll go
 have np:=D.ne1 f1
 have nq:=(D.k0 k1).ne1 f2
 have npq:pl≠pd:=fun e=>by rw[← e,g1]at f2; cases f2
 have ndl:d≠pl:=fun e=>by rw[e,f1]at gm; cases gm
 have ndq:d≠pd:=fun e=>by rw[e]at gm; rw[k1.free f2]at gm; cases gm
 have lm:=rm.length
 refine⟨by simp only[Yb]; omega,by simp only[Yb]; omega,?_⟩
 refine Zg5 (fun i σ' H'=>∃ (o2 o5:Option V) (L:List Str) (R:Prg),σ'=[some (.ref h),some (.ref d),o2,some (.ref pl),some (.ref pd),o5]∧L.length + i=P.length∧H' pl=some (.lst (L.map V.str))∧ZK K H' pd R∧(L++R.map (·.1)).Perm (P.map (·.1))∧(∀ x∈R,x∈P)∧R.length ≤ 8∧ZK K H' d P∧Drw H' h c∧Za [h,c] H H')
  ⟨none,none,P.map (·.1),[],rfl,by simp,k2.obj _ _ Ya g1,⟨[],g2,.nil⟩,by simp,by simp,by simp,(ZK.k0 ⟨m,gm,rm⟩ k1).k0 k2,(D.k0 k1).k0 k2,(k1.trans k2).mono (by simp)⟩ ?_ ?_
 ·rintro i σ' H3 hi ⟨o2,o5,L,R,rfl,eL,gL,dR,pm,sR,lR,d3,D3,K3⟩
  simp only[Yb]at hi
  have hi:i < P.length:=by omega
  row_readAll go
  refine ZoR gL ?_
  row_readAll go
  refine ZcN (SqL.of gL) ?_
  row_readAll go
  refine ZgU D3 (by simp only[Yb]; omega) (by simp only[Yb]; omega) fun u H4 u0 u1 k4 D4=>?_
  obtain⟨n,rfl⟩:∃ n:Nat,u=(n:Nat):=⟨u.toNat,by omega⟩
  rw[Yb]at u1
  have hn:n < L.length:=by omega
  row_readAll go
  have gL4:=k4.obj _ _ (by simp[np.1,np.2]) gL
  have six:seqIndex? ((n:Nat):Int) (L.map V.str).length=some n:=by
   rw[Yb]
   refine(ixN_seq (i:=(n:Int)) (j:=n) ?_).1
   unfold ixN
   rw[if_pos (by omega),if_pos (by omega)]
   simp
  refine⟨pl,L.map V.str,(n:Int),n,.str L[n],rfl,rfl,gL4,by omega,by omega,six,by rw[Ym,Yw hn]; rfl,?_⟩
  have k5:Za [pl] H4 (upd H4 pl (.lst ((L.map V.str).eraseIdx n))):=Za.put gL4 True.intro
  generalize hH5:upd H4 pl (.lst ((L.map V.str).eraseIdx n))=H5 at k5 ⊢
  have g5:H5 pl=some (.lst ((L.eraseIdx n).map V.str)):=by rw[← hH5,Y8,ZiV]
  row_readAll go
  have pL:=ZiU (Yw hn)
  have mem:L[n]∈P.map (·.1):=pm.mem_iff.mp (Yo _ (List.getElem_mem hn))
  obtain⟨x,hx,ex⟩:=Yq.mp mem
  have va:valA P L[n]=some x.2:=Zab nd (by rw[← ex]; exact hx)
  have d5:=(d3.keep k4 (by simp[dh,dc])).keep k5 (by simp[ndl])
  obtain⟨m5,gm5,rm5⟩:=d5
  rcases rm5.val Zak L[n]with⟨_,z⟩ | ⟨v,b,e1,e2,rv⟩
  ·rw[va]at z; cases z
  rw[va]at e2
  cases e2
  refine ZhD gm5 e1 ?_
  row_readAll go
  obtain⟨mR,gR,rR⟩:=(dR.keep k4 (by simp[nq.1,nq.2])).keep k5 (by simp[Ne.symm npq])
  have lmR:=rR.length
  refine Zg8 gR (by omega) fun H6 k6 g6=>?_
  have ne:L[n]∉R.map (·.1):=by
   intro hm
   have nd2:=pm.nodup_iff.mpr nd
   exact(List.nodup_append.mp nd2).2.2 _ (List.getElem_mem hn) _ hm rfl
  have eP:ZbE R L[n] x.2=R++[(L[n],x.2)]:=by
   unfold ZbE
   rw[if_neg]
   intro hh
   rw[List.any_eq_true]at hh
   obtain⟨p,hp,e⟩:=hh
   exact ne (by rw[← of_decide_eq_true e]; exact Yv (f:=(·.1)) hp)
  have rm2:ZbF kS (ZkE K H6) (putK mR (kS L[n]) v) (R++[(L[n],x.2)]):=by
   rw[← eP]
   exact(rR.put Zak (k:=L[n]) (v:=v) (x:=x.2) rv).mono fun v b ib=>ib.mono k6
  have le:=List.length_eraseIdx_of_lt hn
  have hc6:Za [h,c] H H6:=(((K3.trans k4).step1 k5 f1).step1 k6 (k1.free f2))
  refine⟨_,_,L.eraseIdx n,R++[(L[n],x.2)],rfl,by omega,k6.obj _ _ (by simp[npq]) g5,⟨_,g6,rm2⟩,?_,?_,?_,ZK.keep ⟨m5,gm5,rm5⟩ k6 (by simp[ndq]),(D4.keep k5 (by simp[Ne.symm np.1]) (by simp[Ne.symm np.2])).keep k6 (by simp[Ne.symm nq.1]) (by simp[Ne.symm nq.2]),hc6⟩
  ·refine List.Perm.trans ?_ pm
   rw[Yl,← Ys]
   refine(List.perm_append_comm).trans ?_
   exact(pL.symm.append_right _)
  ·intro y hy
   rcases Yh.mp hy with hy | hy
   ·exact sR y hy
   ·rw[Ye.mp hy,← ex]; exact hx
  ·have:=pm.length_eq
   simp only[Yc,Yb,Yd,Yi]at this ⊢
   omega
 ·rintro σ' H3 ⟨o2,o5,L,R,rfl,eL,gL,dR,pm,sR,lR,d3,D3,K3⟩
  have:L=[]:=List.eq_nil_of_length_eq_zero (by simp only[Yb]at eL; omega)
  subst this
  row_readAll go
  exact q pd R H3 (ZmT nd pm sR) dR (k1.free f2) K3 D3
end M
namespace M
open PySem L2
def Zap(K:YA):Sp:=fun vs H Q _=>∃ h c,∃ most:Nat,vs=[.ref h,.int most]∧Drw H h c∧most ≤ 4 ∧
 ∀ p ml nl d ms ns P H',SqT K H' p [.ref ml,.ref nl,.ref d]→MN H' h c ml nl ms ns→ZK K H' d P→ZgE ms ns P→(∀ x∈P,cntL x.2 ≤ 6 + 13 * most∧x.2.length ≤ 3 + most)→H ml=none→H nl=none→H d=none→ml≠nl→d≠ml→d≠nl→Za [h,c] H H'→Q (.ref p) H'
theorem ZfM{K:YA}(vs:List V)(H:Hp)(Q:VK)(E:XK)(h:Zap K vs H Q E):Zck K { nx:=fun _ H'=>Q .non H',rt:=Q } (start ZhZ vs) H:=by
 obtain⟨h,c,most,rfl,D,hm,q⟩:=h
 show Zck K _ [some (.ref h),some (.int most),none,none,none,none] H
 unfold Zck
 have sl:=ZaF
 row_readAll go
 refine⟨h,c,4,rfl,D,by decide,by decide,fun ml ms H1 f1 ne1 l1 ok1 nd1 g1 k1 D1=>?_⟩
 row_readAll go
 refine⟨h,c,3,rfl,D1,by decide,by decide,fun nl ns H2 f2 ne2 l2 ok2 nd2 g2 k2 D2=>?_⟩
 row_readAll go
 have a1:=D.ne1 f1
 have a2:=D1.ne1 f2
 have n12:ml≠nl:=fun e=>by subst e; rw[f2]at g1; cases g1
 have X2:MN H2 h c ml nl ms ns:=⟨D2,⟨k2.obj _ _ (by simp[a1.1,a1.2]) g1,ne1,by omega,ok1,a1.1,a1.2⟩,⟨g2,ne2,by omega,ok2,a2.1,a2.2⟩⟩
 try rw[Zm7]
 refine Zm8 fun d H3 f3 k3 g3=>?_
 have X3:=X2.k0 k3
 have nf:=X2.fresh f3
 row_readAll go
 refine .inl ⟨⟨_,SqL.of X3.m.at_⟩,?_⟩
 have fl2:H nl=none:=k1.free f2
 have fd:H d=none:=k1.free (k2.free f3)
 have sub3:∀ b∈[h,c],b∈[h,c,d]:=by intro a m; simp at m ⊢; rcases m with rfl | rfl <;> simp
 refine Zg6 (S:=[h,c,d]) (Wk.lst (SqL.of X3.m.at_) (by simp[a1.1,a1.2,Ne.symm nf.2.2.1])) (fun i σ' H'=>∃ o3 P,σ'=[some (.ref h),some (.int most),some (.ref d),o3,some (.ref ml),some (.ref nl)]∧ZK K H' d P∧P.map (·.1)=ms.take i∧(∀ x∈P,ZoA ms ns x.2∧cntL x.2 ≤ 6 + 13 * most∧x.2.length ≤ 3 + most)∧Za [h,c,d] H3 H'∧Za [h,c] H H'∧MN H' h c ml nl ms ns)
  (fun i σ' H' p=>by obtain⟨_,_,_,_,_,_,k,_,_⟩:=p; exact k)
  ⟨none,[],rfl,⟨[],g3,.nil⟩,by simp,by simp,Za.refl _ _,(k1.trans k2).step0 k3,X3⟩ ?_ ?_
 ·rintro i x σ' H4 H5 hx ⟨o3,P,rfl,dp,kP,bP,kD,kH,X4⟩ k5
  rw[Ym,Option.map_eq_some_iff]at hx
  obtain⟨z,hz,rfl⟩:=hx
  have hi:=ZeF hz
  have X5:=X4.k0 k5
  row_readAll go
  refine⟨h,c,ml,nl,ms,ns,rfl,X5,fun v6 b6 H6 i6 r6 l6 k6 X6=>?_⟩
  row_readAll go
  refine Zj4 (d:=0) (most:=most) X6 rfl rfl (by decide) (by decide) (by omega) fun v7 b7 H7 i7 r7 l7 k7 X7=>?_
  obtain⟨a6,xs6,rfl,s6,ha6⟩:=i6.of_tup
  obtain⟨a7,xs7,rfl,s7,ha7⟩:=i7.of_tup
  have e6:=ha6.length
  have e7:=ha7.length
  rw[ZbI]at e6 e7
  refine Zif (k7.sqT s6) s7 (by omega) fun p8 H8 k8 g8=>?_
  row_readAll go
  have i8:Im K H8 (.ref p8) (.tuple (blkD (b6++b7))):=by
   rw[Zjg]
   exact .tup g8 (((ha6.mono k7).mono k8).append (ha7.mono k8))
  have k58:Za [h,c] H4 H8:=((k5.nil.trans k6).trans k7).step0 k8
  obtain⟨m,gm,rm⟩:=dp.keep k58 (by simp[nf.1,nf.2.1])
  have lm:=rm.length
  have lP:P.length=i:=by
   have:=congrArg List.length kP
   rw[Yb,Yu]at this
   omega
  refine Zg8 gm (by omega) fun H9 k9 g9=>?_
  have ne:z∉P.map (·.1):=by
   rw[kP]
   intro hm2
   obtain⟨j,hj⟩:=Yy hm2
   have hj2:=(Yk.mp hj).1
   rw[Yu]at hj2
   rw[List.getElem?_take_of_lt (by omega)]at hj
   have hlt:i < ms.length:=hi
   have e1:ms[j]'(by omega)=z:=(Yk.mp hj).2
   have e2:ms[i]=z:=(Yk.mp hz).2
   have:=(List.getElem_inj (h₀:=by omega) (h₁:=hlt) nd1).mp (e1.trans e2.symm)
   omega
  have eP:ZbE P z (b6++b7)=P++[(z,b6++b7)]:=by
   unfold ZbE
   rw[if_neg]
   intro hh
   rw[List.any_eq_true]at hh
   obtain⟨p,hp,e⟩:=hh
   exact ne (by rw[← of_decide_eq_true e]; exact Yv (f:=(·.1)) hp)
  have rm2:ZbF kS (ZkE K H9) (putK m (kS z) (.ref p8)) (P++[(z,b6++b7)]):=by
   rw[← eP]
   exact(rm.put Zak (k:=z) (v:=.ref p8) (x:=b6++b7) i8).mono fun v b ib=>ib.mono k9
  refine⟨_,P++[(z,b6++b7)],rfl,⟨_,g9,rm2⟩,?_,?_,?_,?_,?_⟩
  ·rw[Yl,kP,take_snoc hz]; rfl
  ·intro y my
   simp only[Yh,Ye]at my
   rcases my with my | rfl
   ·exact bP y my
   ·refine⟨.of r6 (by have:=l2; omega) r7 l7 hm,?_,by rw[Yc]; omega⟩
    obtain⟨_,_,_,c⟩:=ZgD r7
    rw[ZeS]
    have:=r6.cnt
    have e:stN 0=13:=rfl
    rw[e]at c
    omega
  ·exact(kD.trans (k58.mono sub3)).trans (k9.mono (by intro a m; simp at m ⊢; simp[m]))
  ·exact(kH.trans k58).step1 k9 fd
  ·exact(X7.k0 k8).put k9 nf.1 nf.2.1 nf.2.2.1 nf.2.2.2
 ·rintro σ' H4 ⟨o3,P,rfl,dp,kP,bP,kD,kH,X4⟩
  row_readAll go
  refine ZV (by row_readAll ln) fun p H5 f5 k5 g5=>?_
  rw[Yb,Yt]at kP
  exact q p ml nl d ms ns P H5 g5 (X4.k0 k5) (dp.k0 k5) ⟨nd1,nd2,by omega,by omega,ne1,ne2,ok1,ok2,kP,fun x m=>(bP x m).1⟩ (fun x m=>(bP x m).2) f1 fl2 fd n12 nf.2.2.1 nf.2.2.2 (kH.step0 k5)
end M
namespace M
open PySem PySem.Spec PyProof.Rows L2 L2H SlX
local macro_rules | `(tactic| row_readAll n4) => `(tactic| simp only [Zfq])
local macro_rules | `(tactic| row_readAll gg) => `(tactic| ((try row_readAll go); (try row_readAll n4); (try row_readAll go); (try row_readAll n4); (try row_readAll go)))
def Zke(K:YA):Sp:=fun vs H Q _=>∃ (a:YD) (ns:List Int),vs=[.ref a]∧SqL K H a (ns.map V.int)∧ns.length ≤ 63∧∀ H',Q (.bl true) H'
def Zjq(K:YA)(CP CU:YD):TS:=(Xi (tOr (Xc (tOp (ZqM CP (Zp K CP) E0) (tOp (rIx K) (YS 7) (tC (.int 0))) (YS 14))) (tNot (tB (Xm (ZaQ K CP) [] E0 (YT (YS 14) (YT (YS 10) YZ)))))) (Xh (tC (.bl false))) Xo)
def Zjr(K:YA)(CP CU:YD):TS:=(Y9 (Xi (tOr (Xc (tOp (Zie K) (Xm (Zag K CP) [] E0 (YT (YS 14) (YT (Zbo (YT (tOp (rIx K) (YS 7) (tC (.int 1))) (YT (tOp (rIx K) (YS 7) (tC (.int 0))) YZ))) YZ))) (tOp (rIx K) (YS 7) (tC (.int 1))))) (tNot (tB (Xm (Zbj K CP) [] E0 (YT (YS 14) (YT (tOp (rIx K) (YS 7) (tC (.int 0))) YZ)))))) (Xh (tC (.bl false))) Xo)
 (Zjq K CP CU))
def Zjs(K:YA)(CP CU:YD):TS:=(Y9 (Xi (tOr (Xc (tOp (Zie K) (Xm (Zag K CP) [] E0 (YT (YS 14) (YT (Zbo (YT (YS 3) (YT (tOp (rIx K) (YS 7) (tC (.int 0))) YZ))) YZ))) (tOp (rIx K) (YS 7) (tC (.int 0))))) (Xc (tOp rNotN (Xm (Zag K CP) [] E0 (YT (YS 14) (YT (Zbo (YT (YS 3) YZ)) YZ))) (tC .non)))) (Xh (tC (.bl false))) Xo)
 (Zjr K CP CU))
def Zjt(K:YA)(CP CU:YD):TS:=(Y9 (Xi (Xc (tOp (Zl5 K) (tC (.bl true)) (Zbo (YT (tOp (rOwn K CP (Zz K CP) E0) (YS 14) (tMethSl CP (ZbU K CP) E0 (YS 14) (YT (YS 3) YZ))) (YT (tOp (rOwn K CP (Zz K CP) E0) (YS 14) (tMethSl CP (ZD K CP) E0 (YS 14) (YT (tOp (rIx K) (YS 7) (tC (.int 0))) (YT (Zs K YZ) YZ)))) YZ))))) (Xh (tC (.bl false))) Xo)
 (Zjs K CP CU))
def Zju(K:YA)(CP CU:YD):TS:=(Y9 (Xk (tLc (ZjT K (Zbo (YT (tC (.str "another")) (YT (tC (.str "nowhere")) (YT (tC (.str "nothere")) (YT (tC (.str "z")) (YT (tC (.str "zz")) (YT (tC (.str "zzz")) YZ)))))))) (Y4 6) (tB (tOp rNotInD (YS 6) (YS 10))) (YS 6) [6]) (Y4 7))
 (Zjt K CP CU))
def Zjv(K:YA)(CP CU:YD):TS:=(Y9 (Xi (tNot (tB (Xm (ZaQ K CP) [] E0 (YT (tMethSl CP (ZbU K CP) E0 (YS 14) (YT (YS 3) YZ)) (YT (YS 17) YZ))))) (Xh (tC (.bl false))) Xo)
 (Zju K CP CU))
def Zjw(K:YA)(CP CU:YD):TS:=(Y9 (Xi (tNot (tB (Xm (ZaQ K CP) [] E0 (YT (tMethSl CP (ZD K CP) E0 (YS 14) (YT (tOp (rIx K) (YS 11) (tC (.int 0))) (YT (Zs K (YT (Zs K (YT (tC (.str "del")) (YT (tC (.str "q")) YZ))) YZ)) YZ))) (YT (YS 16) YZ))))) (Xh (tC (.bl false))) Xo)
 (Zjv K CP CU))
def Zjx(K:YA)(CP CU:YD):TS:=(Y9 (tPar 16 17 (YT (tCB ZfF (YT (YS 10) YZ)) (YT (tCB ZfF (YT (YS 10) YZ)) YZ)))
 (Y9 (Xk (Zs K (YT (Zs K (YT (tC (.str "del")) (YT (tC (.str "q")) YZ))) YZ)) (gSub (YS 16) (tOp (rIx K) (YS 11) (tC (.int 0))) rSetD))
 (Y9 (Xn (tDPop1 (YS 17) (YS 3)))
 (Zjw K CP CU))))
def Zjy(K:YA)(CP CU:YD):TS:=(Y9 (Xi (tOr (tNot (tB (Xm (ZaQ K CP) [] E0 (YT (tOp (Zsb CP (Zao K CP) E0) (YS 14) (YS 15)) (YT (YS 5) YZ))))) (Xc (tOp (Zie K) (tOp (rOwn K CP (Zz K CP) E0) (YS 14) (YS 15)) (tOp (Zod K) (YS 10) (YS 13))))) (Xh (tC (.bl false))) Xo)
 (Zjx K CP CU))
def Zjz(K:YA)(CP CU:YD):TS:=(Y9 (Xk (tCB ZfF (YT (YS 10) YZ)) (Y4 5))
 (Y9 (tLock (tFor (iKeys (YS 13)) (Y4 6) (Xk (tOp rIxD (YS 13) (YS 6)) (gSub (YS 5) (YS 6) rSetD))))
 (Zjy K CP CU)))
def ZjA(K:YA)(CP CU:YD):TS:=(Y9 (Xk (Zs K YZ) (gSub (YS 4) (tC (.str "added")) rSetD))
 (Y9 (Xi (tOr (tNot (tB (Xm (ZaQ K CP) [] E0 (YT (YS 14) (YT (YS 10) YZ))))) (tOr (tNot (tB (Xm (ZaQ K CP) [] E0 (YT (YS 15) (YT (YS 13) YZ))))) (tNot (Xc (tOp (rOwn K CP (Zz K CP) E0) (YS 14) (tMake CP (Zf K CP) [] E0 (YT (tCB ZfF (YT (YS 10) YZ)) YZ))))))) (Xh (tC (.bl false))) Xo)
 (Zjz K CP CU)))
def ZjB(K:YA)(CP CU:YD):TS:=(Y9 (Xk (Xm (ZbC K) [] E0 (YT (YS 1) (YT (YS 10) YZ))) (Y4 4))
 (Y9 (tPar 14 15 (YT (tMake CP (Zf K CP) [] E0 (YT (YS 4) YZ)) (YT (tMake CP (Zf K CP) [] E0 (YT (tCB ZfF (YT (YS 13) YZ)) YZ)) YZ)))
 (ZjA K CP CU)))
def ZjC(K:YA)(CP CU:YD):TS:=(Y9 (Xk (tOp (rIx K) (YS 8) (Xm (Zb K) [] E0 (YT (YS 1) (YT (tCB (rLen K) (YT (YS 8) YZ)) YZ)))) (Y4 3))
 (Y9 (Xk (tOp (rIx K) (Zbo (YT (tOp rIxD (YS 10) (YS 3)) (YT (Zs K (YT (Zs K (YT (tC (.str "raise")) YZ)) YZ)) YZ))) (Xm (Zb K) [] E0 (YT (YS 1) (YT (tC (.int 2)) YZ)))) (gSub (YS 13) (YS 3) rSetD))
 (ZjB K CP CU)))
def ZmU(K:YA)(CP CU:YD):TS:=(Y9 (Xk (Xm (ZcT K) [] E0 (YT (YS 0) (YT (tC (.int 12)) YZ))) (Y4 1))
 (Y9 (tFor (iRng1 (YT (tC (.int 4)) YZ)) (Y4 2) (Y9 (Xk (Xm (Zap K) [] E0 (YT (YS 1) (YT (tC (.int 3)) YZ))) (gTup K 3 (gCons (Y4 8) (gCons (Y4 9) (gCons (Y4 10) gNil)))))
 (Y9 (Xk (Xm (Zap K) [] E0 (YT (YS 1) (YT (tC (.int 2)) YZ))) (gTup K 3 (gCons (Y4 11) (gCons (Y4 12) (gCons (Y4 13) gNil)))))
 (ZjC K CP CU))))
 (Xh (tC (.bl true)))))
def Zsj:List Str:=["_law_script", "_law_h", "_law_turn", "_law_name_here", "_law_given", "_law_union", "_law_each", "_law_unknown_here", "_law_modules", "_law_names_here", "_law_found", "_law_others", "_law_more", "_law_second", "_law_program_here", "_law_other", "_law_added", "_law_less"]
theorem Zsk{td ty:TE}{σ:L2.St}{H:Hp}{Q:VK}:tDPop1 td ty σ H Q=td σ H fun x H1=>∃ a,x = .ref a∧IsD H1 a∧ty σ H1 fun y H2=>∃ kvs k v,H2 a=some (.dK kvs)∧y=kV k∧valV kvs k=some v∧Q v (upd H2 a (.dK (dropK kvs k))):=rfl
theorem Zkf{P:Prg}(nd:(P.map (·.1)).Nodup)(y:Str×List Stm):y∈Zt P↔y∈P:=by
 unfold Zt
 rw[Yq]
 constructor
 ·rintro⟨n,hn,rfl⟩
  rw[Zcp,Yq]at hn
  obtain⟨z,hz,rfl⟩:=hn
  rw[Zab (k:=z.1) (v:=z.2) nd hz]
  exact hz
 ·intro hy
  refine⟨y.1,Zcp.mpr (Yv (f:=(·.1)) hy),?_⟩
  rw[Zab (k:=y.1) (v:=y.2) nd hy]
  rfl
theorem ZiW{P:Prg}(nd:(P.map (·.1)).Nodup):((Zt P).map (·.1)).Nodup:=by rw[ZbR]; exact ZeP nd
theorem Zqx{P:Prg}:Zdg ((Zt P).map (·.1))=(Zt P).map (·.1):=by rw[ZbR]; exact ZeO (ZbJ _)
theorem ZfN{P:Prg}(nd:(P.map (·.1)).Nodup):(Zt P).Perm P :=
 (List.perm_ext_iff_of_nodup (Zhv (ZiW nd)) (Zhv nd)).mpr fun x=>Zkf nd x
theorem ZiX{P:Prg}(nd:(P.map (·.1)).Nodup)(n:Str):valA (Zt P) n=valA P n:=ZgI (ZfN nd) (ZiW nd) n
theorem ZfO{P:Prg}(ok:Zbw P):Zbw (Zt P) :=
 ⟨ZiW ok.nd,by rw[(ZfN ok.nd).length_eq]; exact ok.few,fun x hx=>ok.nm x ((Zkf ok.nd x).mp hx),fun x hx=>ok.blk x ((Zkf ok.nd x).mp hx)⟩
theorem ZdS{P:Prg}(ok:Zbw P):∀ x∈P,Zij x.2:=fun x hx=>ZhO (ok.blk x hx).wf (by have:=(ok.blk x hx).dep; omega)
theorem ZlW{P R:Prg}(ok:Zbw P)(h:R.Perm P):Zbw R :=
 ⟨(h.map (·.1)).nodup_iff.mpr ok.nd,by rw[h.length_eq]; exact ok.few,fun x hx=>ok.nm x (h.mem_iff.mp hx),fun x hx=>ok.blk x (h.mem_iff.mp hx)⟩
theorem ZjD{P R:Prg}(h:R.Perm P)(nd:(P.map (·.1)).Nodup):Zt R=Zt P:=by
 unfold Zt
 rw[ZeO (h.map (·.1))]
 refine List.map_congr_left fun n _=>?_
 rw[ZgI h ((h.map (·.1)).nodup_iff.mpr nd)]
theorem Zfr{P:Prg}{n:Str}{b:List Stm}(nd:(P.map (·.1)).Nodup):((ZbE P n b).map (·.1)).Nodup:=by
 unfold ZbE
 split
 ·rw[Yx,show((fun x:Str×List Stm=>x.1) ∘ fun kv=>if kv.1=n then(kv.1,b)else kv)=fun x=>x.1 from by funext x; simp only[Function.comp]; split <;> rfl]
  exact nd
 ·rename_i h
  rw[Yl,List.nodup_append]
  refine⟨nd,by simp,?_⟩
  intro x hx y hy e
  simp only[Yr,List.map_nil,Ye]at hy
  subst hy
  subst e
  refine h ?_
  obtain⟨p,hp,ep⟩:=Yq.mp hx
  exact List.any_eq_true.mpr ⟨p,hp,decide_eq_true ep⟩
theorem ZgO{P:Prg}{n:Str}{b:List Stm}:(ZbE P n b).length ≤ P.length + 1:=by
 unfold ZbE
 split
 ·rw[Yb]; omega
 ·rw[Yc]; simp
theorem ZjE{P:Prg}{n:Str}{b:List Stm}(ok:Zbw P)(l:P.length ≤ 7)(on:okN n)(ob:ZdB b):Zbw (ZbE P n b):=by
 have key:∀ x∈ZbE P n b,x∈P∨x=(n,b):=fun x hx=>by
  have:=Zab (k:=x.1) (v:=x.2) (Zfr ok.nd) hx
  rw[Zge]at this
  split at this
  ·rename_i e
   cases this
   exact .inr (by rw[e])
  ·exact .inl (Zaw this)
 refine⟨Zfr ok.nd,by have:=ZgO (P:=P) (n:=n) (b:=b); omega,fun x hx=>?_,fun x hx=>?_⟩
 ·rcases key x hx with h | rfl
  ·exact ok.nm x h
  ·exact on
 ·rcases key x hx with h | rfl
  ·exact ok.blk x h
  ·exact ob
theorem ZjF{P:Prg}{ns:List Str}(ok:Zbw P):Zbw (Zht P ns):=⟨List.Nodup.sublist (List.filter_sublist.map _) ok.nd,Nat.le_trans (List.length_filter_le _ _) ok.few,fun x hx=>ok.nm x (List.mem_filter.mp hx).1,fun x hx=>ok.blk x (List.mem_filter.mp hx).1⟩
theorem Zfs:∀ {R P:Prg} {x:Str×List Stm},x∈Zax P R→x∈P∨x∈R
 | [],_,_,h=>.inl h
 | (k,b) :: r,P,x,h=>by
   have h:x∈Zax (ZbE P k b) r:=h
   rcases Zfs h with h | h
   ·have key:x∈P∨x=(k,b):=by
     unfold ZbE at h
     split at h
     ·obtain⟨y,hy,rfl⟩:=Yq.mp h
      split
      ·rename_i e; exact .inr (by rw[e])
      ·exact .inl hy
     ·rcases Yh.mp h with h | h
      ·exact .inl h
      ·exact .inr (Ye.mp h)
    rcases key with h | rfl
    ·exact .inl h
    ·exact .inr Yg
   ·exact .inr (Yf _ h)
theorem Zft:∀ {R P:Prg},(P.map (·.1)).Nodup→((Zax P R).map (·.1)).Nodup
 | [],_,h=>h
 | (k,b) :: r,P,h=>Zft (R:=r) (P:=ZbE P k b) (Zfr h)
theorem ZiY:∀ {R P:Prg},(Zax P R).length ≤ P.length + R.length
 | [],_=>YO _
 | (k,b) :: r,P=>by
   have h1:(Zax (ZbE P k b) r).length ≤ _:=ZiY (R:=r)
   have h2:=ZgO (P:=P) (n:=k) (b:=b)
   show(Zax (ZbE P k b) r).length ≤ _
   rw[Yd]
   omega
theorem Zhw{P R:Prg}(nd:(P.map (·.1)).Nodup)(ndR:(R.map (·.1)).Nodup):(Zax P R).Perm (Zax (Zt P) (Zt R)) :=
 Zj8 (Zft nd) (Zft (ZiW nd)) fun n=>by rw[ZfL _ _ _ ndR,ZfL _ _ _ (ZiW ndR),ZiX nd,ZiX ndR]
theorem ZmV{P:Prg}{n:Str}{b:List Stm}(nd:(P.map (·.1)).Nodup):(ZbE P n b).Perm (ZbE (Zt P) n b) :=
 Zj8 (Zfr nd) (Zfr (ZiW nd)) fun k=>by rw[Zge,Zge,ZiX nd]
theorem ZlX{P:Prg}{n:Str}(nd:(P.map (·.1)).Nodup):(Zk3 P n).Perm (Zht (Zt P) [n]):=by
 refine(List.perm_ext_iff_of_nodup (Zhv (List.Nodup.sublist (List.filter_sublist.map _) nd)) (Zhv (List.Nodup.sublist (List.filter_sublist.map _) (ZiW nd)))).mpr fun x=>?_
 show x∈P.filter _↔x∈(Zt P).filter _
 rw[List.mem_filter,List.mem_filter,Zkf nd]
 simp
section
variable {K:YA} {CP CU A B d:YD} {F:Prg} {pf pf':List YD} {H:Hp} {Q:VK} {E:XK}
theorem v_is{R P:Prg}(xa:ZH K H CP A (Zt P) pf)(dp:ZK K H d R)(ok:Zbw P)(pm:R.Perm P)(q:∀ H',Za [] H H'→Q (.bl true) H'):ZaQ K CP [.ref A,.ref d] H Q E :=
 ⟨A,d,Zt P,R,pf,rfl,xa,dp,pm.trans (ZfN ok.nd).symm,ZfO ok,Zqx,fun x hx=>by
  have o:=(ZfO ok).blk x hx
  exact⟨o.dep,by rw[walk_len]; have:=o.cnt; omega⟩,q⟩
theorem Zkg{P P':Prg}(nf:PySem.W.notFirst K CP (.ref CP)=true)(x:ZH K H CP A P pf)(y:ZH K H CP B P' pf')(l:∀ x∈P,Zij x.2)(l':∀ x∈P',Zij x.2)(q:Q (.bl (Zji P P')) H):rOwn K CP (Zz K CP) E0 (.ref A) (.ref B) H Q:=by
 obtain⟨dx,nl,e,_,s,_⟩:=x.ex
 obtain⟨dx',nl',e',_,s',_⟩:=y.ex
 exact⟨A,dx,_,B,CP,dx',_,rfl,rfl,s,s',nf,A,B,P,P',pf,pf',rfl,x,y,l,l',q⟩
structure T02(F S:Prg)(nm:Str):Prop where
 f:Zbw F
 s:Zbw S
 lf:F.length ≤ 4
 ls:S.length ≤ 5
 lu:(Zax F S).length ≤ 8
 mem:nm∈F.map (·.1)
variable {S:Prg} {nm u0 u1:Str} {us os:List Str} {h sd ol pu dl:YD} {D:Ends} {v0 v2 v3 v4 v5 v6 v7 v8 v9 v11 v12 v13 v15 v16 v17:Option V}
theorem Zsl(x:T02 F S nm)(xa:ZH K H CP A (Zt F) pf)(dF:ZK K H d F)(hu:H pu=some (.lst ((u0 :: u1 :: us).map V.str)))(n0:u0∉F.map (·.1))
  (q:∀ H',Za [] H H'→D.nx [v0,some (.ref h),v2,v3,v4,v5,v6,some (.ref pu),v8,v9,some (.ref d),v11,v12,v13,some (.ref A),v15,v16,v17] H') :
  Zjq K CP CU D [v0,some (.ref h),v2,v3,v4,v5,v6,some (.ref pu),v8,v9,some (.ref d),v11,v12,v13,some (.ref A),v15,v16,v17] H:=by
 unfold Zjq
 row_readAll gg
 refine ZaA (SqL.of hu) ZfE ?_
 row_readAll gg
 obtain⟨dx,nl,e,_,s,_⟩:=xa.ex
 refine⟨A,dx,_,rfl,s,A,u0,Zt F,pf,rfl,xa,false,?_,?_⟩
 ·rw[ZiX x.f.nd,ZQ.mpr n0]; rfl
 row_readAll gg
 refine v_is xa dF x.f (List.Perm.refl _) fun H1 k1=>?_
 row_readAll gg
 exact q H1 k1
theorem Zh_{P:Prg}{n:Str}(h:n∈P.map (·.1)):unk [n] P=none:=by
 unfold unk
 rw[List.find?_eq_none]
 intro y hy
 rw[Ye]at hy
 subst hy
 cases z:valA P y with
 | none=>exact absurd h (ZQ.mp z)
 | some _=>simp
theorem Zqy{P:Prg}{n:Str}{r:List Str}(h:n∉P.map (·.1)):unk (n :: r) P=some n:=by
 unfold unk
 rw[List.find?_cons,ZQ.mpr h]
 rfl
theorem Zor{P:Prg}{n m:Str}(h:n∈P.map (·.1))(h2:m∉P.map (·.1)):unk [n,m] P=some m:=by
 have h1:=Zh_ h
 unfold unk at h1 ⊢
 cases z:valA P n with
 | none=>exact absurd h (ZQ.mp z)
 | some _ =>
   rw[List.find?_cons,z]
   simp only[Option.isNone_some]
   rw[List.find?_cons,ZQ.mpr h2]
   rfl
theorem Zf2{n:Str}:n∈(Zt F).map (·.1)↔n∈F.map (·.1):=by rw[ZbR,Zcp]
theorem Zsm(x:T02 F S nm)(xa:ZH K H CP A (Zt F) pf)(dF:ZK K H d F)(hu:H pu=some (.lst ((u0 :: u1 :: us).map V.str)))(n0:u0∉F.map (·.1))(n1:u1∉F.map (·.1))(so:PyData.strOk u0=true)
  (q:∀ H',Za [] H H'→D.nx [v0,some (.ref h),v2,v3,v4,v5,v6,some (.ref pu),v8,v9,some (.ref d),v11,v12,v13,some (.ref A),v15,v16,v17] H') :
  Zjr K CP CU D [v0,some (.ref h),v2,v3,v4,v5,v6,some (.ref pu),v8,v9,some (.ref d),v11,v12,v13,some (.ref A),v15,v16,v17] H:=by
 unfold Zjr
 row_readAll gg
 refine ZaA (SqL.of hu) (atI_nat (j:=1) rfl) ?_
 row_readAll gg
 refine ZaA (SqL.of hu) ZfE ?_
 row_readAll gg
 refine Zbg (by row_readAll ln) fun p1 H1 f1 k1 g1=>?_
 row_readAll gg
 refine⟨A,p1,Zt F,pf,[u1,u0],rfl,xa.k0 k1,ZfO x.f,g1,.inr rfl,fun H2 k2=>?_⟩
 rw[Zqy (by rw[Zf2]; exact n1)]
 have k02:=k1.trans k2
 show rIx K (.ref pu) (.int 1) H2 _
 have hu2:=k02.obj _ _ Ya hu
 refine ZaA (SqL.of hu2) (atI_nat (j:=1) rfl) ?_
 refine Znl ?_
 rw[decide_eq_true rfl]
 row_readAll gg
 refine ZaA (SqL.of hu2) ZfE ?_
 refine⟨A,u0,Zt F,pf,rfl,xa.k0 k02,?_,so,fun H3 k3=>?_⟩
 ·rw[ZiX x.f.nd,ZQ.mpr n0]
 row_readAll gg
 have k03:=k02.trans k3
 exact Zsl x (xa.k0 k03) (dF.k0 k03) (k03.obj _ _ Ya hu) n0 fun H4 k4=>q H4 (k03.trans k4)
theorem Zsn(x:T02 F S nm)(xa:ZH K H CP A (Zt F) pf)(dF:ZK K H d F)(hu:H pu=some (.lst ((u0 :: u1 :: us).map V.str)))(n0:u0∉F.map (·.1))(n1:u1∉F.map (·.1))(so:PyData.strOk u0=true)
  (q:∀ H',Za [] H H'→D.nx [v0,some (.ref h),v2,some (.str nm),v4,v5,v6,some (.ref pu),v8,v9,some (.ref d),v11,v12,v13,some (.ref A),v15,v16,v17] H') :
  Zjs K CP CU D [v0,some (.ref h),v2,some (.str nm),v4,v5,v6,some (.ref pu),v8,v9,some (.ref d),v11,v12,v13,some (.ref A),v15,v16,v17] H:=by
 unfold Zjs
 row_readAll gg
 refine ZaA (SqL.of hu) ZfE ?_
 row_readAll gg
 refine Zbg (by row_readAll ln) fun p1 H1 f1 k1 g1=>?_
 row_readAll gg
 refine⟨A,p1,Zt F,pf,[nm,u0],rfl,xa.k0 k1,ZfO x.f,g1,.inr rfl,fun H2 k2=>?_⟩
 rw[Zor (by rw[Zf2]; exact x.mem) (by rw[Zf2]; exact n0)]
 have k02:=k1.trans k2
 show rIx K (.ref pu) (.int 0) H2 _
 have hu2:=k02.obj _ _ Ya hu
 refine ZaA (SqL.of hu2) ZfE ?_
 refine Znl ?_
 rw[decide_eq_true rfl]
 row_readAll gg
 refine Zbg (by row_readAll ln) fun p3 H3 f3 k3 g3=>?_
 row_readAll gg
 have k03:=k02.trans k3
 refine⟨A,p3,Zt F,pf,[nm],rfl,xa.k0 k03,ZfO x.f,g3,.inl rfl,fun H4 k4=>?_⟩
 rw[Zh_ (by rw[Zf2]; exact x.mem)]
 have k04:=k03.trans k4
 simp only[Zqw,decide_true,Bool.not_true,Bool.false_eq_true,if_false]
 row_readAll gg
 exact Zsm x (xa.k0 k04) (dF.k0 k04) (k04.obj _ _ Ya hu) n0 n1 so fun H5 k5=>q H5 (k04.trans k5)
theorem Zos{n:Str}(h:n∈F.map (·.1)):F.length≠(Zht F [n]).length:=by
 obtain⟨y,hy,e⟩:=Yq.mp h
 have:=List.length_filter_lt_length_iff_exists (p:=fun x:Str×List Stm=>!decide (x.1∈[n])) (l:=F) |>.mpr ⟨y,hy,by simp[e]⟩
 unfold Zht
 omega
theorem Zot{n:Str}{b:List Stm}(h:n∉F.map (·.1)):F.length≠(ZbE F n b).length:=by
 unfold ZbE
 rw[if_neg]
 ·rw[Yc,List.length_singleton]; omega
 ·intro hh
  obtain⟨p,hp,e⟩:=List.any_eq_true.mp hh
  exact h (by rw[← of_decide_eq_true e]; exact Yv (f:=(·.1)) hp)
theorem Zgk{P:Prg}(nd:(P.map (·.1)).Nodup):(Zt P).length=P.length:=(ZfN nd).length_eq
theorem Zso(nf:PySem.W.notFirst K CP (.ref CP)=true)(x:T02 F S nm)(xa:ZH K H CP A (Zt F) pf)(dF:ZK K H d F)(hu:H pu=some (.lst ((u0 :: u1 :: us).map V.str)))(n0:u0∉F.map (·.1))(n1:u1∉F.map (·.1))(so:okN u0)
  (q:∀ H',Za [] H H'→D.nx [v0,some (.ref h),v2,some (.str nm),v4,v5,v6,some (.ref pu),v8,v9,some (.ref d),v11,v12,v13,some (.ref A),v15,v16,v17] H') :
  Zjt K CP CU D [v0,some (.ref h),v2,some (.str nm),v4,v5,v6,some (.ref pu),v8,v9,some (.ref d),v11,v12,v13,some (.ref A),v15,v16,v17] H:=by
 unfold Zjt
 have sl:=ZaF
 row_readAll gg
 obtain⟨dx,nl,e,_,s,_⟩:=xa.ex
 refine⟨A,dx,_,rfl,s,?_⟩
 row_readAll gg
 have okA:=ZfO x.f
 refine Zhu (ns:=[nm]) xa okA (by simp) (Zh_ (by rw[Zf2]; exact x.mem)) fun C fc H1 xc k1=>?_
 refine Zkg nf (xa.k0 k1) xc (ZdS okA) (ZdS (ZfO (ZjF okA))) ?_
 rw[Zj7 (by rw[Zgk (ZjF okA).nd]; exact Zos (by rw[Zf2]; exact x.mem))]
 have xa1:=xa.k0 k1
 obtain⟨dx1,nl1,e1,_,s1,_⟩:=xa1.ex
 row_readAll gg
 refine⟨A,dx1,_,rfl,s1,?_⟩
 row_readAll gg
 have hu1:=k1.obj _ _ Ya hu
 refine ZaA (SqL.of hu1) ZfE ?_
 row_readAll gg
 refine ZV (by row_readAll ln) fun p2 H2 f2 k2 s2=>?_
 row_readAll gg
 have okB:ZdB []:=⟨by simp[wfL],by simp[depL],by simp[cntL],by simp[walkL]⟩
 have okP:=ZjE (b:=[]) okA (by rw[Zgk x.f.nd]; have:=x.lf; omega) so okB
 refine⟨A,Zt F,pf,u0,.ref p2,[],rfl,xa1.k0 k2,okA.nd,okA.few,.tup s2 .nil,okP,fun G fg H3 xg k3=>?_⟩
 refine Zkg nf ((xa1.k0 k2).k0 k3) xg (ZdS okA) (ZdS (ZfO okP)) ?_
 rw[Zj7 (by rw[Zgk okP.nd]; exact Zot (by rw[Zf2]; exact n0))]
 row_readAll gg
 refine Zbg (by row_readAll ln) fun p4 H4 f4 k4 g4=>?_
 refine .inl ⟨p4,_,rfl,.inl (SqL.of g4),rfl,rfl,?_⟩
 rw[show inV (V.bl true) [V.bl false,V.bl false]=false from rfl]
 row_readAll gg
 have k04:=((k1.trans k2).trans k3).trans k4
 exact Zsn x (xa.k0 k04) (dF.k0 k04) (k04.obj _ _ Ya hu) n0 n1 so.tx.2 fun H5 k5=>q H5 (k04.trans k5)
def U6:List Str:=["another", "nowhere", "nothere", "z", "zz", "zzz"]
theorem Zsp:U6.Nodup:=by decide +kernel
theorem Zsq:∀ u∈U6,okN u:=fun u h=>Zj2 ((by decide +kernel:∀ u∈U6,Zgg u=true) u h)
theorem ZjG{α : Type} [DecidableEq α]:∀ {l m:List α},l.Nodup→(∀ x∈l,x∈m)→l.length ≤ m.length
 | [],_,_,_=>YP _
 | a :: l,m,h,g=>by
   rw[List.nodup_cons]at h
   have hm:a∈m:=g a Yg
   have:=ZjG (l:=l) (m:=m.erase a) h.2 fun x hx=>(List.mem_erase_of_ne (by rintro rfl; exact h.1 hx)).mpr (g x (Yf _ hx))
   rw[List.length_erase_of_mem hm]at this
   have:=List.length_pos_of_mem hm
   rw[Yd]
   omega
theorem ZiZ{α : Type}(p : α→Bool):∀ l:List α,l.length=(l.filter p).length + (l.filter fun z=>!p z).length
 | []=>rfl
 | a :: l=>by
   have:=ZiZ p l
   cases h:p a <;> simp[h,List.filter_cons] <;> omega
theorem Zqz{ks:List Str}(h:ks.length ≤ 4):∃ u0 u1 us,U6.filter (fun z=>!decide (z∈ks))=u0 :: u1 :: us:=by
 have e1:(U6.filter (fun z=>decide (z∈ks))).length ≤ ks.length:=ZjG (Zsp.sublist List.filter_sublist) fun x hx=>of_decide_eq_true (List.mem_filter.mp hx).2
 have e2:U6.length=(U6.filter (fun z=>decide (z∈ks))).length + (U6.filter (fun z=>!decide (z∈ks))).length:=by
  exact ZiZ (fun z=>decide (z∈ks)) U6
 have e3:U6.length=6:=rfl
 match hf:U6.filter (fun z=>!decide (z∈ks))with
 | []=>rw[hf]at e2; simp only[Yi]at e2; omega
 | [a]=>rw[hf]at e2; simp only[Yd,Yi]at e2; omega
 | a :: b :: r=>exact⟨a,b,r,rfl⟩
theorem Zsr(nf:PySem.W.notFirst K CP (.ref CP)=true)(x:T02 F S nm)(xa:ZH K H CP A (Zt F) pf)(dF:ZK K H d F)
  (q:∀ v6 v7 H',Za [] H H'→D.nx [v0,some (.ref h),v2,some (.str nm),v4,v5,v6,v7,v8,v9,some (.ref d),v11,v12,v13,some (.ref A),v15,v16,v17] H') :
  Zju K CP CU D [v0,some (.ref h),v2,some (.str nm),v4,v5,v6,v7,v8,v9,some (.ref d),v11,v12,v13,some (.ref A),v15,v16,v17] H:=by
 unfold Zju
 have sl:=ZaF
 row_readAll gg
 refine Zbg (by row_readAll ln) fun p1 H1 f1 k1 g1=>?_
 have g1':H1 p1=some (.lst (U6.map V.str)):=g1
 row_readAll gg
 refine .inl ⟨⟨_,SqL.of g1'⟩,?_⟩
 refine Ze8 (fun v=>match v with | .str z=>!decide (z∈F.map (·.1)) | _=>true) (Wk.lst (SqL.of g1') Ya) (by rw[Yb,sl]; decide) (by simp) (fun i y H2 R hy k r=>?_) fun p2 H2 f2 k2 g2=>?_
 ·rw[Ym,Option.map_eq_some_iff]at hy
  obtain⟨z,hz,rfl⟩:=hy
  obtain⟨m,gm,rm⟩:=(dF.k0 k1).k0 k
  row_readAll go
  refine Zg7 gm ?_
  have e:(!(valV m (.inr z)).isSome) = !decide (z∈F.map (·.1)):=by
   rcases rm.val Zak z with⟨e1,e2⟩ | ⟨v,b,e1,e2,_⟩
   ·rw[show valV m (.inr z)=none from e1,decide_eq_false (ZQ.mp e2)]; rfl
   ·rw[show valV m (.inr z)=some v from e1,decide_eq_true (Yv (f:=(·.1)) (Zaw e2))]; rfl
  rw[e]
  exact⟨_,rfl,r H2 (Za.refl _ _)⟩
 ·obtain⟨u0,u1,us,eu⟩:=Zqz (ks:=F.map (·.1)) (by rw[Yb]; exact x.lf)
  rw[List.filter_map,show((fun v=>match v with | .str z=>!decide (z∈F.map (·.1)) | _=>true) ∘ V.str)=fun z=>!decide (z∈F.map (·.1))from rfl,eu]at g2
  have m0:u0∈U6.filter (fun z=>!decide (z∈F.map (·.1))):=by rw[eu]; simp
  have m1:u1∈U6.filter (fun z=>!decide (z∈F.map (·.1))):=by rw[eu]; simp
  obtain⟨a0,b0⟩:=List.mem_filter.mp m0
  obtain⟨a1,b1⟩:=List.mem_filter.mp m1
  row_readAll gg
  have k12:=k1.trans k2
  exact Zso nf x (xa.k0 k12) (dF.k0 k12) g2 (by simpa using b0) (by simpa using b1) (Zsq _ a0) fun H3 k3=>q _ _ H3 (k12.trans k3)
theorem Zss{ls:YD}(nf:PySem.W.notFirst K CP (.ref CP)=true)(x:T02 F S nm)(xa:ZH K H CP A (Zt F) pf)(dF:ZK K H d F)(dL:ZK K H ls (Zk3 F nm))
  (q:∀ v6 v7 H',Za [] H H'→D.nx [v0,some (.ref h),v2,some (.str nm),v4,v5,v6,v7,v8,v9,some (.ref d),v11,v12,v13,some (.ref A),v15,v16,some (.ref ls)] H') :
  Zjv K CP CU D [v0,some (.ref h),v2,some (.str nm),v4,v5,v6,v7,v8,v9,some (.ref d),v11,v12,v13,some (.ref A),v15,v16,some (.ref ls)] H:=by
 unfold Zjv
 row_readAll gg
 obtain⟨dx,nl,e,_,s,_⟩:=xa.ex
 refine⟨A,dx,_,rfl,s,?_⟩
 row_readAll gg
 have okA:=ZfO x.f
 refine Zhu (ns:=[nm]) xa okA (by simp) (Zh_ (by rw[Zf2]; exact x.mem)) fun C fc H1 xc k1=>?_
 row_readAll gg
 refine v_is xc (dL.k0 k1) (ZjF okA) (ZlX x.f.nd) fun H2 k2=>?_
 row_readAll gg
 have k02:=k1.trans k2
 exact Zsr nf x (xa.k0 k02) (dF.k0 k02) fun _ _ H3 k3=>q _ _ H3 (k02.trans k3)
def ZlY:List Stm:=[.del "q"]
theorem Zou:ZdB ZlY:=⟨by simp only[ZlY,wfL,Stm.wf,and_true]; exact Zj2 (by decide +kernel),by simp[ZlY,depL,Stm.dep],by simp[ZlY,cntL,Stm.cnt],by intro r hr; simp[ZlY,walkL,Stm.sub]at hr; subst hr; simp⟩
theorem Zst{ls ad:YD}{o0:Str}{os:List Str}(nf:PySem.W.notFirst K CP (.ref CP)=true)(x:T02 F S nm)(xa:ZH K H CP A (Zt F) pf)(dF:ZK K H d F)(dL:ZK K H ls (Zk3 F nm))(hol:H ol=some (.lst ((o0 :: os).map V.str)))(oo:okN o0)
  (dA:ZK K H ad (ZbE F o0 ZlY))
  (q:∀ v6 v7 H',Za [] H H'→D.nx [v0,some (.ref h),v2,some (.str nm),v4,v5,v6,v7,v8,v9,some (.ref d),some (.ref ol),v12,v13,some (.ref A),v15,some (.ref ad),some (.ref ls)] H') :
  Zjw K CP CU D [v0,some (.ref h),v2,some (.str nm),v4,v5,v6,v7,v8,v9,some (.ref d),some (.ref ol),v12,v13,some (.ref A),v15,some (.ref ad),some (.ref ls)] H:=by
 unfold Zjw
 have sl:=ZaF
 row_readAll gg
 obtain⟨dx,nl,e,_,s,_⟩:=xa.ex
 refine⟨A,dx,_,rfl,s,?_⟩
 row_readAll gg
 refine ZaA (SqL.of hol) ZfE ?_
 row_readAll gg
 refine ZV (by row_readAll ln) fun p1 H1 f1 k1 s1=>?_
 row_readAll gg
 refine ZV (by row_readAll ln) fun p2 H2 f2 k2 s2=>?_
 row_readAll gg
 have okA:=ZfO x.f
 have okP:=ZjE (b:=ZlY) okA (by rw[Zgk x.f.nd]; have:=x.lf; omega) oo Zou
 have k02:=k1.trans k2
 have iv:Im K H2 (.ref p2) (.tuple (blkD ZlY)):=.tup s2 (.cons (.tup (k2.sqT s1) (.cons (.str _) (.cons (.str _) .nil))) .nil)
 refine⟨A,Zt F,pf,o0,.ref p2,ZlY,rfl,xa.k0 k02,okA.nd,okA.few,iv,okP,fun G fg H3 xg k3=>?_⟩
 row_readAll gg
 have k03:=k02.trans k3
 refine v_is xg (dA.k0 k03) okP (ZmV x.f.nd) fun H4 k4=>?_
 row_readAll gg
 have k04:=k03.trans k4
 exact Zss nf x (xa.k0 k04) (dF.k0 k04) (dL.k0 k04) fun _ _ H5 k5=>q _ _ H5 (k04.trans k5)
theorem Zsu{o0:Str}{os:List Str}(nf:PySem.W.notFirst K CP (.ref CP)=true)(x:T02 F S nm)(xa:ZH K H CP A (Zt F) pf)(dF:ZK K H d F)(hol:H ol=some (.lst ((o0 :: os).map V.str)))(oo:okN o0)
  (q:∀ v6 v7 v16 v17 H',Za [] H H'→D.nx [v0,some (.ref h),v2,some (.str nm),v4,v5,v6,v7,v8,v9,some (.ref d),some (.ref ol),v12,v13,some (.ref A),v15,v16,v17] H') :
  Zjx K CP CU D [v0,some (.ref h),v2,some (.str nm),v4,v5,v6,v7,v8,v9,some (.ref d),some (.ref ol),v12,v13,some (.ref A),v15,v16,v17] H:=by
 unfold Zjx
 have sl:=ZaF
 have lF:=x.lf
 row_readAll gg
 obtain⟨m,gm,rm⟩:=id dF
 have lm:=rm.length
 refine⟨d,m,rfl,.inl gm,fun ad H1 f1 k1 g1=>?_⟩
 row_readAll gg
 refine⟨d,m,rfl,.inl (k1.obj _ _ Ya gm),fun ls H2 f2 k2 g2=>?_⟩
 row_readAll gg
 refine ZV (by row_readAll ln) fun p1 H3 f3 k3 s3=>?_
 row_readAll gg
 refine ZV (by row_readAll ln) fun p2 H4 f4 k4 s4=>?_
 row_readAll gg
 have k14:=(k2.trans k3).trans k4
 refine ZaA (SqL.of ((k1.trans k14).obj _ _ Ya hol)) ZfE ?_
 row_readAll gg
 have iv:Im K H4 (.ref p2) (.tuple (blkD ZlY)):=.tup s4 (.cons (.tup (k4.sqT s3) (.cons (.str _) (.cons (.str _) .nil))) .nil)
 refine Zg8 (k14.obj _ _ Ya g1) (by omega) fun H5 k5 g5=>?_
 row_readAll gg
 have nal:ls≠ad:=fun e=>by rw[e,g1]at f2; cases f2
 have g25:=k5.obj _ _ (by simpa using nal) ((k3.trans k4).obj _ _ Ya g2)
 have rm5:ZbF kS (ZkE K H5) m F:=rm.mono fun v b i=>i.mono ((k1.trans k14).step1 k5 f1)
 have mv:∃ v,valV m (kS nm)=some v:=by
  rcases rm.val Zak nm with⟨_,e2⟩ | ⟨v,b,e1,_,_⟩
  ·exact absurd x.mem (ZQ.mp e2)
  ·exact⟨v,e1⟩
 obtain⟨v,ev⟩:=mv
 rw[Zsk]
 row_readAll go
 refine⟨.inl ⟨m,.inl g25⟩,m,kS nm,v,g25,rfl,ev,?_⟩
 have k6:Za [ls] H5 (upd H5 ls (.dK (dropK m (kS nm)))):=Za.put g25 True.intro
 have g6:upd H5 ls (.dK (dropK m (kS nm))) ls=some (.dK (dropK m (kS nm))):=Y8
 generalize upd H5 ls (.dK (dropK m (kS nm)))=H6 at k6 g6
 have k15:Za [] H H5:=(k1.trans k14).step1 k5 f1
 have k16:Za [] H H6:=k15.step1 k6 (k1.free f2)
 have g56:=k6.obj _ _ (by simpa using Ne.symm nal) g5
 row_readAll gg
 refine Zst nf x (xa.k0 k16) (dF.k0 k16) ⟨_,g6,(rm.mono fun v b i=>i.mono k16).drop Zak⟩ (k16.obj _ _ Ya hol) oo ⟨_,g56,(rm.mono fun v b i=>i.mono k16).put Zak (k:=o0) (v:=.ref p2) (x:=ZlY) ?_⟩ fun _ _ H7 k7=>q _ _ _ _ H7 (k16.trans k7)
 exact(iv.mono k5).mono k6
end
local macro_rules | `(tactic| row_readAll n4) => `(tactic| simp only [Zfq])
local macro_rules | `(tactic| row_readAll gg) => `(tactic| ((try row_readAll go); (try row_readAll n4); (try row_readAll go); (try row_readAll n4); (try row_readAll go)))
section
variable {K:YA} {CP CU A B d:YD} {F:Prg} {pf pf':List YD} {H:Hp} {Q:VK} {E:XK}
variable {S:Prg} {nm u0 u1:Str} {us os:List Str} {h sd ol pu dl gv:YD} {D:Ends} {v0 v2 v3 v4 v5 v6 v7 v8 v9 v11 v12 v13 v15 v16 v17:Option V}
theorem ZqA{H:Hp}{Q:VK}{a:YD}{m:List (Key×V)}{k:Str}{v:V}(h:Rd H a (.dK m))(e:valV m (.inr k)=some v)(q:Q v H):rIxD (.ref a) (.str k) H Q :=
 ⟨a,v,rfl,by have:DGet H a (kV (.inr k)) (valV m (.inr k)):=.inl ⟨m,_,h,rfl,rfl⟩; rw[e]at this; exact this,q⟩
theorem ZlZ{P R:Prg}(nd:(P.map (·.1)).Nodup)(ndR:(R.map (·.1)).Nodup):Zji (Zt P) (Zt R)=Zji P R:=ZlF (ZfN nd) (ZfN ndR) (ZiW ndR)
theorem Zsv{o0:Str}{un:YD}(nf:PySem.W.notFirst K CP (.ref CP)=true)(x:T02 F S nm)(xa:ZH K H CP A (Zt F) pf)(xb:ZH K H CP B (Zt S) pf')(dF:ZK K H d F)(dS:ZK K H sd S)(dU:ZK K H un (Zax F S))(hol:H ol=some (.lst ((o0 :: os).map V.str)))(oo:okN o0)
  (q:∀ v6 v7 v16 v17 H',Za [] H H'→D.nx [v0,some (.ref h),v2,some (.str nm),v4,some (.ref un),v6,v7,v8,v9,some (.ref d),some (.ref ol),v12,some (.ref sd),some (.ref A),some (.ref B),v16,v17] H') :
  Zjy K CP CU D [v0,some (.ref h),v2,some (.str nm),v4,some (.ref un),v6,v7,v8,v9,some (.ref d),some (.ref ol),v12,some (.ref sd),some (.ref A),some (.ref B),v16,v17] H:=by
 unfold Zjy
 row_readAll gg
 obtain⟨dx,nl,e,_,s,_⟩:=xa.ex
 obtain⟨dx',nl',e',_,s',_⟩:=xb.ex
 have okA:=ZfO x.f
 have okB:=ZfO x.s
 have lf:=x.lf
 have ls:=x.ls
 have okU0:Zbw (Zax F S):=⟨Zft x.f.nd,x.lu,fun y hy=>(Zfs hy).elim (x.f.nm y) (x.s.nm y),fun y hy=>(Zfs hy).elim (x.f.blk y) (x.s.blk y)⟩
 have okU:Zbw (Zax (Zt F) (Zt S)):=ZlW okU0 (Zhw x.f.nd x.s.nd).symm
 refine⟨A,dx,_,B,dx',_,rfl,rfl,s,s',A,Zt F,pf,B,Zt S,pf',rfl,xa,xb,okA.nd,okA.few,okB.few,okU,fun G fg H1 xg k1=>?_⟩
 row_readAll gg
 refine v_is xg (dU.k0 k1) okU (Zhw x.f.nd x.s.nd) fun H2 k2=>?_
 row_readAll gg
 have k02:=k1.trans k2
 refine Zkg nf (xa.k0 k02) (xb.k0 k02) (ZdS okA) (ZdS okB) ?_
 row_readAll gg
 obtain⟨m,g,rm⟩:=dF.k0 k02
 obtain⟨m',g',rm'⟩:=dS.k0 k02
 refine⟨d,sd,m,m',F,S,rfl,rfl,g,g',rm,rm',ZdS x.f,ZdS x.s,?_⟩
 refine ZlS ?_
 rw[ZlZ x.f.nd x.s.nd,show(Zji F S != Zji F S)=false from by simp]
 row_readAll gg
 exact Zsu nf x (xa.k0 k02) (dF.k0 k02) (k02.obj _ _ Ya hol) oo fun _ _ _ _ H3 k3=>q _ _ _ _ H3 (k02.trans k3)
theorem ZkK{P R:Prg}{y:Str×List Stm}:Zax P (R++[y])=ZbE (Zax P R) y.1 y.2:=by
 unfold Zax
 rw[List.foldl_append]
 rfl
theorem Zsw{o0:Str}(nf:PySem.W.notFirst K CP (.ref CP)=true)(x:T02 F S nm)(xa:ZH K H CP A (Zt F) pf)(xb:ZH K H CP B (Zt S) pf')(dF:ZK K H d F)(dS:ZK K H sd S)(hol:H ol=some (.lst ((o0 :: os).map V.str)))(oo:okN o0)
  (q:∀ v5 v6 v7 v16 v17 H',Za [] H H'→D.nx [v0,some (.ref h),v2,some (.str nm),v4,v5,v6,v7,v8,v9,some (.ref d),some (.ref ol),v12,some (.ref sd),some (.ref A),some (.ref B),v16,v17] H') :
  Zjz K CP CU D [v0,some (.ref h),v2,some (.str nm),v4,v5,v6,v7,v8,v9,some (.ref d),some (.ref ol),v12,some (.ref sd),some (.ref A),some (.ref B),v16,v17] H:=by
 unfold Zjz
 have sl:=ZaF
 have lf:=x.lf
 have ls:=x.ls
 row_readAll gg
 obtain⟨m,gm,rm⟩:=id dF
 have lm:=rm.length
 refine⟨d,m,rfl,.inl gm,fun un H1 f1 k1 g1=>?_⟩
 row_readAll gg
 obtain⟨ms,gs,rs⟩:=dS.k0 k1
 have lms:=rs.length
 have ek:ZiL ms=(S.map (·.1)).map V.str:=ZlH rs
 have nus:un≠sd:=fun e=>by
  obtain⟨m0,g0,_⟩:=dS
  rw[← e,f1]at g0
  cases g0
 have rm1:ZbF kS (ZkE K H1) m F:=rm.mono fun v b i=>i.mono k1
 obtain⟨Pw,hPw⟩:∃ Pw:Hp→Nat→L2.St→Hp→Prop,∀ H0 j σ' H',Pw H0 j σ' H'↔(∃ o6,σ'=[v0,some (.ref h),v2,some (.str nm),v4,some (.ref un),o6,v7,v8,v9,some (.ref d),some (.ref ol),v12,some (.ref sd),some (.ref A),some (.ref B),v16,v17]∧ZK K H' un (Zax F (S.take j))∧Za [un] H0 H'):=⟨_,fun _ _ _ _=>Iff.rfl⟩
 refine ZlI (S:=[un]) (d:=sd) (m:=ms) (fun _ _=>by row_readAll n) gs Pw (fun H0 i σ' H' z=>by obtain⟨_,_,_,k⟩:=(hPw _ _ _ _).mp z; exact k) ?_ ?_ ?_
 ·intro H0 od e0 h0 k0
  exact(hPw _ _ _ _).mpr ⟨_,rfl,⟨m,k0.obj _ _ (by simpa using nus) g1,rm1.mono fun v b i=>i.mono k0⟩,Za.refl _ _⟩
 ·intro H0 od h0 k0 D' j y σ' H3 H4 hx k04 hp k34 nx
  obtain⟨o6,rfl,dj,k3⟩:=(hPw _ _ _ _).mp hp
  clear hp
  rw[ek,Ym,Option.map_eq_some_iff]at hx
  obtain⟨n,hm,rfl⟩:=hx
  obtain⟨⟨n',b⟩,hP,em⟩:=get_map hm
  subst em
  have mP:=Yj hP
  have dj4:=dj.k0 k34
  row_readAll go
  rcases rs.val Zak n with⟨_,z⟩ | ⟨vb,b',e1,e2,ib⟩
  ·rw[Zab x.s.nd mP]at z; cases z
  rw[Zab x.s.nd mP]at e2
  cases e2
  refine ZqA (.inr ⟨od,k04.frz _ _ _ h0⟩) e1 ?_
  row_readAll go
  obtain⟨m2,g4,r4⟩:=dj4
  have lm2:=r4.length
  have lu:(Zax F (S.take j)).length ≤ 9:=by
   have h1:=ZiY (P:=F) (R:=S.take j)
   rw[Yu]at h1
   omega
  refine Zg8 g4 (by rw[ZaF]; omega) fun H5 k5 g5=>?_
  have k45:Za [un] H0 H5:=k04.trans k5
  refine nx _ _ ((hPw _ _ _ _).mpr ⟨_,rfl,?_,k45⟩)
  rw[take_snoc hP,ZkK]
  exact⟨_,g5,ZbF.put Zak (r4.mono fun v b i=>Im.mono k5 i) (Im.mono k5 (Im.mono k04 (Im.mono k0 ib)))⟩
 ·intro H0 od e0 k0 σ' H' hp hd' kk
  obtain⟨o6,rfl,dj,k3⟩:=(hPw _ _ _ _).mp hp
  rw[lms,Yt]at dj
  have kf:Za [] H (upd H' sd (.dK ms)):=k1.step1 kk f1
  row_readAll gg
  refine Zsv nf x (xa.k0 kf) (xb.k0 kf) (dF.k0 kf) (dS.k0 kf) (dj.unlock hd' True.intro nus) (kf.obj _ _ Ya hol) oo fun _ _ _ _ H3 k3=>q _ _ _ _ _ H3 (kf.trans k3)
theorem Zsx{o0:Str}{G:Prg}(nf:PySem.W.notFirst K CP (.ref CP)=true)(x:T02 F S nm)(xa:ZH K H CP A (Zt F) pf)(xb:ZH K H CP B (Zt S) pf')(dF:ZK K H d F)(dS:ZK K H sd S)(dG:ZK K H gv G)(lG:G.length ≤ 8)(ng:d≠gv∧sd≠gv∧ol≠gv∧gv∉pf∧gv∉pf')(hol:H ol=some (.lst ((o0 :: os).map V.str)))(oo:okN o0)
  (q:∀ v5 v6 v7 v16 v17 H',Za [gv] H H'→D.nx [v0,some (.ref h),v2,some (.str nm),some (.ref gv),v5,v6,v7,v8,v9,some (.ref d),some (.ref ol),v12,some (.ref sd),some (.ref A),some (.ref B),v16,v17] H') :
  ZjA K CP CU D [v0,some (.ref h),v2,some (.str nm),some (.ref gv),v5,v6,v7,v8,v9,some (.ref d),some (.ref ol),v12,some (.ref sd),some (.ref A),some (.ref B),v16,v17] H:=by
 unfold ZjA
 have sl:=ZaF
 row_readAll gg
 refine ZV (by row_readAll ln) fun p1 H1 f1 k1 s1=>?_
 row_readAll gg
 obtain⟨mg,gg,rg⟩:=dG.k0 k1
 have lg:=rg.length
 refine Zg8 gg (by omega) fun H2 k2 g2=>?_
 have k02:Za [gv] H H2:=k1.nil.trans k2
 row_readAll gg
 have xa2:ZH K H2 CP A (Zt F) pf:=xa.keep k02 fun b hb e=>ng.2.2.2.1 (by rw[← Ye.mp e]; exact hb)
 have xb2:ZH K H2 CP B (Zt S) pf':=xb.keep k02 fun b hb e=>ng.2.2.2.2 (by rw[← Ye.mp e]; exact hb)
 have dF2:ZK K H2 d F:=dF.keep k02 (by simpa using ng.1)
 have dS2:ZK K H2 sd S:=dS.keep k02 (by simpa using ng.2.1)
 have ol2:=k02.obj _ _ (by simpa using ng.2.2.1) hol
 refine v_is xa2 dF2 x.f (List.Perm.refl _) fun H3 k3=>?_
 row_readAll gg
 refine v_is (xb2.k0 k3) (dS2.k0 k3) x.s (List.Perm.refl _) fun H4 k4=>?_
 row_readAll gg
 have k24:=k3.trans k4
 obtain⟨m,gm,rm⟩:=dF2.k0 k24
 refine⟨d,m,rfl,.inl gm,fun c5 H5 f5 k5 g5=>?_⟩
 row_readAll gg
 refine Zh5 (P:=F) ⟨m,g5,rm.mono fun v b i=>i.mono k5⟩ x.f fun C fc H6 xc k6=>?_
 have k26:=(k24.trans k5).trans k6
 have okA:=ZfO x.f
 refine Zkg nf (xa2.k0 k26) xc (ZdS okA) (ZdS okA) ?_
 rw[ZlE okA.nd (ZdS okA)]
 row_readAll gg
 exact Zsw nf x (xa2.k0 k26) (xb2.k0 k26) (dF2.k0 k26) (dS2.k0 k26) (k26.obj _ _ Ya ol2) oo fun _ _ _ _ _ H7 k7=>q _ _ _ _ _ H7 (k02.step0 (k26.trans k7))
end
local macro_rules | `(tactic| row_readAll n4) => `(tactic| simp only [Zfq])
local macro_rules | `(tactic| row_readAll gg) => `(tactic| ((try row_readAll go); (try row_readAll n4); (try row_readAll go); (try row_readAll n4); (try row_readAll go)))
theorem Zkh{K:YA}{CP d:YD}{P:Prg}{H:Hp}{R:YD→Hp→Prop}(dp:ZK K H d P)(ok:Zbw P)(yes:∀ a fp H',ZH K H' CP a (Zt P) fp→(∀ b∈fp,H b=none)→Za [] H H'→R a H') :
  ∀ x dx,H x=none→H dx=none→dx≠x→Zf K CP [.ref x,.ref d] (upd (upd H dx (.own x)) x (.ins CP dx [])) (fun v H2=>v = .non∧R x H2) E0:=by
 intro x dx fx fd ne
 have k0:Za [] H (upd (upd H dx (.own x)) x (.ins CP dx [])):=(Za.new fd).trans (Za.new (by rw[upd_ne (Ne.symm ne)]; exact fx))
 refine⟨x,dx,d,P,rfl,Y8,?_,ne,dp.k0 k0,ok,?_⟩
 ·rw[upd_ne ne,Y8]
 ·intro nl e H' at_ fnl fe kk
  refine⟨rfl,yes x _ H' at_ (fun b hb=>?_) (k0.step kk fun b m=>?_)⟩
  ·simp only[Yn,Ya,or_false]at hb
   rcases hb with rfl | rfl | rfl | rfl
   ·exact fx
   ·exact fd
   ·exact k0.free fnl
   ·exact k0.free fe
  simp only[Yn,Ya,or_false]at m
  rcases m with rfl | rfl
  ·exact .inr fx
  ·exact .inr fd
section
variable {K:YA} {CP CU d:YD} {F S:Prg} {H:Hp} {h c sd ol:YD} {nm o0:Str} {os:List Str} {D:Ends} {v0 v2 v3 v4 v5 v6 v7 v8 v9 v11 v12 v13 v14 v15 v16 v17:Option V}
theorem Zsy(nf:PySem.W.notFirst K CP (.ref CP)=true)(x:T02 F S nm)(dF:ZK K H d F)(dS:ZK K H sd S)(Dr:Drw H h c)(nd:d≠h∧d≠c∧sd≠h∧sd≠c∧ol≠h∧ol≠c)(hol:H ol=some (.lst ((o0 :: os).map V.str)))(oo:okN o0)
  (q:∀ v4 v5 v6 v7 v14 v15 v16 v17 H',Drw H' h c→D.nx [v0,some (.ref h),v2,some (.str nm),v4,v5,v6,v7,v8,v9,some (.ref d),some (.ref ol),v12,some (.ref sd),v14,v15,v16,v17] H') :
  ZjB K CP CU D [v0,some (.ref h),v2,some (.str nm),v4,v5,v6,v7,v8,v9,some (.ref d),some (.ref ol),v12,some (.ref sd),v14,v15,v16,v17] H:=by
 unfold ZjB
 have lf:=x.lf
 row_readAll gg
 refine⟨h,c,d,F,rfl,Dr,dF,x.f.nd,by omega,nd.1,nd.2.1,fun gv G H1 pm dG fg k1 D1=>?_⟩
 row_readAll gg
 have okG:=ZlW x.f pm
 refine Zkh dG okG fun A pf H2 xa fa k2=>?_
 rw[ZjD pm x.f.nd]at xa
 row_readAll gg
 have dF1:ZK K H1 d F:=dF.keep k1 (by simp[nd.1,nd.2.1])
 have dS1:ZK K H1 sd S:=dS.keep k1 (by simp[nd.2.2.1,nd.2.2.2.1])
 have ol1:=k1.obj _ _ (by simp[nd.2.2.2.2.1,nd.2.2.2.2.2]) hol
 obtain⟨m,gm,rm⟩:=dS1.k0 k2
 refine⟨sd,m,rfl,.inl gm,fun c3 H3 f3 k3 g3=>?_⟩
 row_readAll gg
 refine Zkh (P:=S) ⟨m,g3,rm.mono fun v b i=>i.mono k3⟩ x.s fun B pf' H4 xb fb k4=>?_
 row_readAll gg
 have k24:=(k2.trans k3).trans k4
 have hG1:∃ o,H1 gv=some o:=by obtain⟨m0,g0,_⟩:=dG; exact⟨_,g0⟩
 have hd:∀ {b:YD} {o:HO},H b=some o→b≠gv:=fun g e=>by rw[e,fg]at g; cases g
 obtain⟨mF,gF,_⟩:=id dF
 obtain⟨mS,gS,_⟩:=id dS
 obtain⟨og,hG1⟩:=hG1
 refine Zsx nf x (xa.k0 (k3.trans k4)) xb (dF1.k0 k24) (dS1.k0 k24) (dG.k0 k24) okG.few ⟨hd gF,hd gS,hd hol,fun hb=>?_,fun hb=>?_⟩ (k24.obj _ _ Ya ol1) oo fun _ _ _ _ _ H5 k5=>q _ _ _ _ _ _ _ _ H5 ?_
 ·have:=fa gv hb
  rw[hG1]at this; cases this
 ·have:=fb gv hb
  rw[(k2.trans k3).obj _ _ Ya hG1]at this; cases this
 ·have D4:=D1.k0 k24
  exact D4.keep k5 (by simpa using Ne.symm (Dr.ne1 fg).1) (by simpa using Ne.symm (Dr.ne1 fg).2)
def ZgP:List Stm:=[.raise]
theorem Zl0:ZdB ZgP:=⟨by simp[ZgP,wfL,Stm.wf],by simp[ZgP,depL,Stm.dep],by simp[ZgP,cntL,Stm.cnt],by intro r hr; simp[ZgP,walkL,Stm.sub]at hr; subst hr; simp⟩
theorem Zl1{S0:Prg}{b:List Stm}(nF:(F.map (·.1)).Nodup)(lF:F.length ≤ 4)(l0:S0.length ≤ 4)(hn:nm∈F.map (·.1)):(Zax F (ZbE S0 nm b)).length ≤ 8:=by
 have h:=ZjG (m:=F.map (·.1)++S0.map (·.1)) (Zft (R:=ZbE S0 nm b) nF) fun k hk=>by
  obtain⟨y,hy,rfl⟩:=Yq.mp hk
  rw[Yh]
  rcases Zfs hy with h | h
  ·exact .inl (Yv (f:=(·.1)) h)
  ·unfold ZbE at h
   split at h
   ·obtain⟨z,hz,rfl⟩:=Yq.mp h
    refine .inr ?_
    split <;> exact Yv (f:=(·.1)) hz
   ·rcases Yh.mp h with h | h
    ·exact .inr (Yv (f:=(·.1)) h)
    ·rw[Ye.mp h]; exact .inl hn
 rw[Yb,Yc,Yb,Yb]at h
 omega
theorem Zsz{S0:Prg}{ml nl:YD}{ms ns:List Str}(nf:PySem.W.notFirst K CP (.ref CP)=true)(M:MN H h c ml nl ms ns)(okF:Zbw F)(lF:F.length ≤ 4)(kF:F.map (·.1)=ms)(okS:Zbw S0)(lS:S0.length ≤ 4)(dF:ZK K H d F)(dS:ZK K H sd S0)
  (nd:d≠h∧d≠c∧sd≠h∧sd≠c∧ol≠h∧ol≠c) (ne:d≠sd∧ol≠sd) (hol:H ol=some (.lst ((o0 :: os).map V.str))) (oo:okN o0)
  (q:∀ v3 v4 v5 v6 v7 v14 v15 v16 v17 H',Drw H' h c→D.nx [v0,some (.ref h),v2,v3,v4,v5,v6,v7,some (.ref ml),v9,some (.ref d),some (.ref ol),v12,some (.ref sd),v14,v15,v16,v17] H') :
  ZjC K CP CU D [v0,some (.ref h),v2,v3,v4,v5,v6,v7,some (.ref ml),v9,some (.ref d),some (.ref ol),v12,some (.ref sd),v14,v15,v16,v17] H:=by
 unfold ZjC
 have sl:=ZaF
 row_readAll gg
 refine M.m.draw M.d fun nm H2 ms2 os2 k2 D2 N2=>?_
 row_readAll gg
 have nhd:d∉[h,c]∧sd∉[h,c]∧ol∉[h,c]:=⟨by simp[nd.1,nd.2.1],by simp[nd.2.2.1,nd.2.2.2.1],by simp[nd.2.2.2.2.1,nd.2.2.2.2.2]⟩
 have dF2:=dF.keep k2 nhd.1
 have dS2:=dS.keep k2 nhd.2.1
 have ol2:=k2.obj _ _ nhd.2.2 hol
 have mF:nm∈F.map (·.1):=by rw[kF]; exact ms2
 obtain⟨vb,b,e1,i1,gv⟩:=dF2.val mF
 refine gv _ ?_
 row_readAll gg
 refine ZV (by row_readAll ln) fun p3 H3 f3 k3 s3=>?_
 row_readAll gg
 refine ZV (by row_readAll ln) fun p4 H4 f4 k4 s4=>?_
 row_readAll gg
 refine Zbg (by row_readAll ln) fun p5 H5 f5 k5 g5=>?_
 row_readAll gg
 have k25:=(k3.trans k4).trans k5
 refine ZgU (D2.k0 k25) (by decide) (by decide) fun u H6 u0 u1 k6 D6=>?_
 have n5:=((D2.k0 k3).k0 k4).ne1 f5
 have k26:=k25.nil.trans k6
 have g6:=k6.obj _ _ (by simp[n5.1,n5.2]) g5
 have i6:Im K H6 vb (.tuple (blkD b)):=(i1.mono k25).mono k6
 have ir:Im K H6 (.ref p4) (.tuple (blkD ZgP)):=((Im.tup s4 (.cons (.tup (k4.sqT s3) (.cons (.str _) .nil)) .nil)).mono k5).mono k6
 have okb:ZdB b:=okF.blk _ (Zaw e1)
 have two:∃ (v:V) (b':List Stm),atI [vb,V.ref p4] u=some v∧Im K H6 v (.tuple (blkD b'))∧ZdB b':=by
  have:u=0∨u=1:=by omega
  rcases this with rfl | rfl
  ·exact⟨vb,b,ZfE,i6,okb⟩
  ·exact⟨.ref p4,ZgP,atI_nat (j:=1) rfl,ir,Zl0⟩
 obtain⟨v,b',ea,iv,okb'⟩:=two
 row_readAll gg
 refine ZaA (SqL.of g6) ea ?_
 row_readAll gg
 obtain⟨m6,g6s,r6⟩:=dS2.keep k26 nhd.2.1
 have lm6:=r6.length
 refine Zg8 g6s (by omega) fun H7 k7 g7=>?_
 row_readAll gg
 have T:T02 F (ZbE S0 nm b') nm:=⟨okF,ZjE okS (by omega) (okF.nm _ (Zaw e1)) okb',lF,by have:=ZgO (P:=S0) (n:=nm) (b:=b'); omega,Zl1 okF.nd lF lS mF,mF⟩
 refine Zsy nf T ((dF2.keep k26 nhd.1).keep k7 (by simpa using ne.1)) ⟨_,g7,(r6.put Zak (k:=nm) (v:=v) (x:=b') iv).mono fun v b i=>i.mono k7⟩ (D6.keep k7 (by simpa using Ne.symm nd.2.2.1) (by simpa using Ne.symm nd.2.2.2.1)) nd (k7.obj _ _ (by simpa using ne.2) (k26.obj _ _ nhd.2.2 ol2)) oo fun _ _ _ _ _ _ _ _ H8 D8=>q _ _ _ _ _ _ _ _ _ H8 D8
end
theorem ZmW{K:YA}{CP CU:YD}(nf:PySem.W.notFirst K CP (.ref CP)=true)(vs:List V)(H:Hp)(Q:VK)(E:XK)(h:Zke K vs H Q E):ZmU K CP CU { nx:=fun _ H'=>Q .non H',rt:=Q } (start Zsj vs) H:=by
 obtain⟨a,ns,rfl,hs,hl,q⟩:=h
 show ZmU K CP CU _ [some (.ref a),none,none,none,none,none,none,none,none,none,none,none,none,none,none,none,none,none] H
 unfold ZmU
 row_readAll go
 refine⟨a,ns,12,rfl,hs,hl,by decide,by decide,fun h c0 H1 fh fc k1 D1=>?_⟩
 row_readAll go
 refine⟨by decide,by decide,?_⟩
 obtain⟨P0',hP0⟩:∃ P0':Nat→L2.St→Hp→Prop,∀ i σ' H',P0' i σ' H'↔(∃ o2 o3 o4 o5 o6 o7 o8 o9 o10 o11 o12 o13 o14 o15 o16 o17,σ'=[some (.ref a),some (.ref h),o2,o3,o4,o5,o6,o7,o8,o9,o10,o11,o12,o13,o14,o15,o16,o17]∧Drw H' h c0):=⟨_,fun _ _ _=>Iff.rfl⟩
 refine Zg5 P0' ((hP0 _ _ _).mpr ⟨_,_,_,_,_,_,_,_,_,_,_,_,_,_,_,_,rfl,D1⟩) ?_ ?_
 ·intro i σ' H2 hi hp
  obtain⟨o2,o3,o4,o5,o6,o7,o8,o9,o10,o11,o12,o13,o14,o15,o16,o17,rfl,D2⟩:=(hP0 _ _ _).mp hp
  clear hp
  row_readAll gg
  refine⟨h,c0,3,rfl,D2,by decide,fun p ml nl d ms ns P H3 s3 M3 dp3 dr _ fml fnl fd nmn ndm ndn k3=>?_⟩
  row_readAll gg
  refine Znf s3 ?_
  row_readAll gg
  refine⟨h,c0,2,rfl,M3.d,by decide,fun p4 ml4 nl4 d4 ms4 ns4 P4 H4 s4 M4 dp4 dr4 _ fml4 fnl4 fd4 nmn4 ndm4 ndn4 k4=>?_⟩
  row_readAll gg
  refine Znf s4 ?_
  row_readAll gg
  have nh:=D2.ne1 fd
  have nh4:=M3.d.ne1 fd4
  have ndd:d≠d4:=fun e=>by
   obtain⟨m0,g0,_⟩:=dp3
   rw[e,fd4]at g0
   cases g0
  have lP:P.length ≤ 4:=by have:=congrArg List.length dr.keys; rw[Yb]at this; have:=dr.lm; omega
  have lP4:P4.length ≤ 4:=by have:=congrArg List.length dr4.keys; rw[Yb]at this; have:=dr4.lm; omega
  obtain⟨o0,os,eo⟩:∃ o0 os,ms4=o0 :: os:=by
   cases e:ms4 with
   | nil=>exact absurd e dr4.nm
   | cons x r=>exact⟨x,r,rfl⟩
  have g4:=M4.m.at_
  rw[eo]at g4
  exact Zsz nf (M3.keep k4 M4.d) dr.ok lP dr.keys dr4.ok lP4 (dp3.keep k4 (by simp[nh.1,nh.2])) dp4 ⟨nh.1,nh.2,nh4.1,nh4.2,M4.m.n1,M4.m.n2⟩ ⟨ndd,Ne.symm ndm4⟩ g4 (dr4.okm _ (by rw[eo]; simp)) fun _ _ _ _ _ _ _ _ _ H5 D5=>(hP0 _ _ _).mpr ⟨_,_,_,_,_,_,_,_,_,_,_,_,_,_,_,_,rfl,D5⟩
 ·intro σ' H2 hp
  obtain⟨o2,o3,o4,o5,o6,o7,o8,o9,o10,o11,o12,o13,o14,o15,o16,o17,rfl,D2⟩:=(hP0 _ _ _).mp hp
  row_readAll go
  exact q H2
end M
namespace M
open PySem PySem.Spec PyProof.Rows L2 L2H SlX GenW
theorem ZqB{k:Nat}{A:Around}(hr:Room k A):A.units + 80 < cLine:=by have:=hr.un; omega
def noE:Expr:=.Name "x" ⟨0,0,0,0⟩
def Zov(s:YI):ZcL:=match Y0 s with
 | [.For tg1 it1 [.For tg2 it2 [.Expr (.Yield (some ye) yp) p3] _ p2] _ p1]=>⟨tg1,it1,tg2,it2,ye,yp,p1,p2,p3⟩
 | _=>⟨noE,noE,noE,noE,noE,⟨0,0,0,0⟩,⟨0,0,0,0⟩,⟨0,0,0,0⟩,⟨0,0,0,0⟩⟩
theorem Zl2:Y0 Zd=(Zov Zd).b0:=by rfl
theorem Zia:Zq1 ["self", "name", "path", "statement"] ["self"] (YU Zd):=by
 have all:(YU Zd).names.all (fun y=>decide (y.2≠.free) && decide (y.2≠.cell))=true:=by decide +kernel
 have al:∀ y∈(YU Zd).names,y.2≠.free∧y.2≠.cell:=fun y hy=>by
  have:=List.all_eq_true.mp all y hy
  simpa using this
 refine⟨⟨rfl,rfl,rfl,by decide +kernel,rfl,by decide +kernel,fun y hy=>(al y hy).1⟩,fun x=>?_,fun n=>by rfl⟩
 have key:∀ k,(YU Zd).names.lookup x=some k→k≠.free∧k≠.cell:=fun k h=>by
  obtain⟨l1,l2,e,_⟩:=List.lookup_eq_some_iff.mp h
  have:=al (x,k) (by rw[e]; simp)
  exact this
 exact⟨fun h=>(key _ h).2 rfl,fun h=>(key _ h).1 rfl⟩
section
variable {P:YE} {w:YF} {K:YA} {mg:Str→Option YG} {base:Heap}
theorem ZqC(c_si:C8.Cal P w K mg base 11 "statements_in" (Zk K 10) []) {f:YD} {cdv:YG} {A:Around} {outer:List Env} {s:YH} {H:Hp} {qual:Str}
  (hr:Room 12 (A.deeper (envOfC qual (YU Zd) s.heap.objs.size f cdv))):ZmA (Zng P w K mg base ["self", "name", "path", "statement"] qual (YU Zd) f cdv A outer s H) (Zov Zd) where
 i1:=fun s' H'=>pi_list (SlX.pe_sl (pv 0))
 g1:=fun s' H'=>gN 1 Zia.g.nd
 i2:=fun s' H'=>pi_list (C8.pe_c c_si hr (by omega) rfl (YR (Zco hr.units (SlX.pe_sl (pv 0)) (pv 1) (fun _ _=>rfl)) (YR (Zi YV) YV)))
 g2:=fun s' H'=>pg_tup rfl (pgs_cons (gN 2 Zia.g.nd) (pgs_cons (gN 3 Zia.g.nd) pgs_nil))
 ye:=fun s' H'=>Zi (YR (pv 1) (YR (pv 2) (YR (pv 3) YV)))
 f1:=fun x=>by rfl
 f2:=fun x=>by rfl
 co:=rfl
 ia:=rfl
theorem Zow{C p1 p2 f:YD}{fd:YC}(T:Zd9 K C p1 p2)(hm:Meth K C "each_statement" f) (F:FunD K "each_statement" "Program.each_statement" (Y1 Zd) (Y0 Zd) (YU Zd) [] [] f fd) (hb:Binds K fd ["self"] [])
  (c_si:C8.Cal P w K mg base 11 "statements_in" (Zk K 10) []):Zkb P w K mg base 12 C:=by
 rw[Zl2]at F
 exact⟨p1,p2,f,fd,_,_,_,Zov Zd,T,hm,F,Zia,hb,fun cdv A outer s H hr=>ZqC c_si hr⟩
theorem Zib:Y_ ["value"] ["value"] (YU ZaH):=⟨rfl,rfl,rfl,by decide +kernel,rfl,by decide +kernel,by decide +kernel⟩
theorem Zic{f:YD}{fd:YC}(F:FunD K "is_integer" "is_integer" (Y1 ZaH) (Y0 ZaH) (YU ZaH) [] [] f fd) (B:Blt mg)  : Xl P w K mg base CX0 (0 + 1) f fd ["value"] (ZF K):=by
 refine F.ok Zib (fun vs H Q E h=>by obtain⟨_,_,rfl,_⟩:=h; rfl) (fun cdv A outer s H vs Q E hr h=>⟨Zcz K ,PSs.nox (?_),Zgo vs H Q E h⟩)
 exact(YX (Y7 (pe_and (Xp call_isi rfl B.isinstance Zo (YR (pv 0) (YR (pe_bltn rfl B.int Ze2 rfl) YV))) (pe_one (pe_not (Xp call_isi rfl B.isinstance Zo (YR (pv 0) (YR (pe_bltn rfl B.bool Zi5 rfl) YV))))))))
theorem ZfP:Y_ ["text", "sign"] ["text"] (YU Zb0):=⟨rfl,rfl,rfl,by decide +kernel,rfl,by decide +kernel,by decide +kernel⟩
theorem ZkL{f:YD}{fd:YC}(F:FunD K "is_name" "is_name" (Y1 Zb0) (Y0 Zb0) (YU Zb0) [] [] f fd) (B:Blt mg) (b8:GS mg "LETTERS" "abcdefghijklmnopqrstuvwxyz") (b3:GI mg "MAX_LETTERS" 8):Xl P w K mg base CX0 (0 + 1) f fd ["text"] (Z6 K):=by
 refine F.ok ZfP (fun vs H Q E h=>by obtain⟨_,rfl,_⟩:=h; rfl) (fun cdv A outer s H vs Q E hr h=>⟨Zfh K ,PSs.nox (?_),ZiD vs H Q E h⟩)
 exact(YX (Y7 (pe_and (pe_chain op_le op_le Y2 (Xp ZaW rfl B.len ZaG (YR (pv 0) YV)) (C8.pe_gc rfl b3)) (pe_one (pe_cmpR (ZaC hr.units) (pe_lc (own:=[("sign",1)]) (g:=(Y4 1)) (tt:=(Xc (tOp (ZcI K) (YS 1) (tC (.str "abcdefghijklmnopqrstuvwxyz"))))) rfl ZfP.nd (pi_str (pv 0)) (blkOk_by (N:=["text", "sign"]) (sc:=YU Zb0) (by decide +kernel)) (fun _ _ _ _ _=>(gN 1 ZfP.nd)) (fun _ _ _ _ _=>(pts_one (Y6 Ze5 (pv 1) (C8.pe_gc rfl b8) rfl))) (fun _ _ _ _ _=>(pv 1))) (ZM YV) (Xb _))))))
theorem Zi0:Y_ ["statement"] ["statement"] (YU Zbp):=⟨rfl,rfl,rfl,by decide +kernel,rfl,by decide +kernel,by decide +kernel⟩
theorem Zi1{f:YD}{fd:YC}(F:FunD K "blocks_of" "blocks_of" (Y1 Zbp) (Y0 Zbp) (YU Zbp) [] [] f fd) (B:Blt mg)  : Xl P w K mg base CX0 (0 + 1) f fd ["statement"] (Zb5 K):=by
 refine F.ok Zi0 (fun vs H Q E h=>by obtain⟨_,_,rfl,_⟩:=h; rfl) (fun cdv A outer s H vs Q E hr h=>⟨Zc4 K ,PSs.nox (?_),ZgX vs H Q E h⟩)
 exact(YW (ps_if (Y6 (ZaC hr.units) (Xe Y5 (pv 0) Y2 (fun _ _=>rfl)) Y3 (Xb _)) (YX (Y7 (Zi (YR (Xe Y5 (pv 0) Y2 (fun _ _=>rfl)) YV)))) YY)
 (YW (ps_if (Y6 ZkU (Xe Y5 (pv 0) Y2 (fun _ _=>rfl)) (Zi (YR Y3 (YR Y3 YV))) rfl) (YX (Y7 (Zi (YR (Xe Y5 (pv 0) Y2 (fun _ _=>rfl)) (YR (Xe Y5 (pv 0) Y2 (fun _ _=>rfl)) YV))))) YY)
 (YX (Y7 (Zi YV)))))
theorem ZgQ:Y_ ["statement", "module", "name", "wanted", "expr", "block"] ["statement"] (YU ZbK):=⟨rfl,rfl,rfl,by decide +kernel,rfl,by decide +kernel,by decide +kernel⟩
theorem ZjH{f:YD}{fd:YC}(F:FunD K "names_of" "names_of" (Y1 ZbK) (Y0 ZbK) (YU ZbK) [] [] f fd) (B:Blt mg)  : Xl P w K mg base CX0 (0 + 1) f fd ["statement"] (Zcs K):=by
 refine F.ok ZgQ (fun vs H Q E h=>by obtain⟨_,_,rfl,_⟩:=h; rfl) (fun cdv A outer s H vs Q E hr h=>⟨Zd3 K ,PSs.nox (?_),ZhS vs H Q E h⟩)
 exact(YW (ZjR rfl ZgQ.nd (pv 0) (ZbV (ZcH (cN 1 (cN 2 ZcG))) (YX (Y7 (Zi (YR (pv 1) (YR (pv 2) YV))))) (ZbV (ZcH (cN 1 (cN 3 (cN 2 ZcG)))) (YX (Y7 (Zi (YR (pv 1) (YR (pv 3) (YR (pv 2) YV)))))) (ZbV (ZcH (cN 2 (cN 4 ZcG))) (YX (Y7 (Zi (YR (pv 2) YV)))) (ZbV (ZcH (cN 2 (cN 5 ZcG))) (YX (Y7 (Zi (YR (pv 2) YV)))) (ZbV (ZcH (cN 2 ZcG)) (YX (Y7 (Zi (YR (pv 2) YV)))) (ZbV (ZcH (cN 1 ZcG)) (YX (Y7 (Zi (YR (pv 1) YV)))) ZkN)))))))
 (YX (Y7 (Zi YV))))
theorem Zc0:Y_ ["statement", "name", "expr", "block", "other"] ["statement"] (YU ZW):=⟨rfl,rfl,rfl,by decide +kernel,rfl,by decide +kernel,by decide +kernel⟩
theorem ZfQ{f:YD}{fd:YC}(F:FunD K "expressions_of" "expressions_of" (Y1 ZW) (Y0 ZW) (YU ZW) [] [] f fd) (B:Blt mg)  : Xl P w K mg base CX0 (0 + 1) f fd ["statement"] (Zam K):=by
 refine F.ok Zc0 (fun vs H Q E h=>by obtain⟨_,_,rfl,_⟩:=h; rfl) (fun cdv A outer s H vs Q E hr h=>⟨Zbk K ,PSs.nox (?_),ZeQ vs H Q E h⟩)
 exact(YW (ZjR rfl Zc0.nd (pv 0) (ZbV (ZcH (cN 1 (cN 2 ZcG))) (YX (Y7 (Zi (YR (pv 2) YV)))) (ZbV (ZcH (cN 2 (cN 3 (cN 4 ZcG)))) (YX (Y7 (Zi (YR (pv 2) YV)))) (ZbV (ZcH (cN 2 ZcG)) (YX (Y7 (Zi (YR (pv 2) YV)))) (ZbV (ZcH (cN 2 ZcG)) (YX (Y7 (Zi (YR (pv 2) YV)))) ZkN)))))
 (YX (Y7 (Zi YV))))
theorem ZjI:Y_ ["path"] ["path"] (YU ZbL):=⟨rfl,rfl,rfl,by decide +kernel,rfl,by decide +kernel,by decide +kernel⟩
theorem ZjJ{f:YD}{fd:YC}(F:FunD K "depth_of" "depth_of" (Y1 ZbL) (Y0 ZbL) (YU ZbL) [] [] f fd) (B:Blt mg)  : Xl P w K mg base CX0 (0 + 1) f fd ["path"] (Zct K):=by
 refine F.ok ZjI (fun vs H Q E h=>by obtain⟨_,_,rfl,_⟩:=h; rfl) (fun cdv A outer s H vs Q E hr h=>⟨Zd4 K ,PSs.nox (?_),ZhT vs H Q E h⟩)
 exact(YX (Y7 (pe_op op_fdivW (Xp ZaW rfl B.len ZaG (YR (pv 0) YV)) Y2)))
theorem Zdl:Y_ ["expr", "operators"] ["expr", "operators"] (YU Zu):=⟨rfl,rfl,rfl,by decide +kernel,rfl,by decide +kernel,by decide +kernel⟩
theorem Zdm{n:Nat}{f:YD}{fd:YC}(F:FunD K "is_valid_expression" "is_valid_expression" (Y1 Zu) (Y0 Zu) (YU Zu) [] [] f fd) (B:Blt mg) (b3:C8.Cal P w K mg base (n + 2) "is_valid_expression" (Zg K n) []) (b9:C8.Cal P w K mg base 1 "is_name" (Z6 K) []) (bc:C8.Cal P w K mg base 1 "is_integer" (ZF K) []) (bb:GI mg "MAX_OPERATORS" 3) (b8:GI mg "TOO_LARGE" 1000000000000000000000000000000000000000000000000000000000000):Xl P w K mg base CX0 ((n + 2) + 1) f fd ["expr", "operators"] (Zg K (n + 1)):=by
 refine F.ok Zdl (fun vs H Q E h=>by obtain⟨_,_,_,rfl,_⟩:=h; rfl) (fun cdv A outer s H vs Q E hr h=>⟨ZJ K (Zg K n),PSs.nox (?_),ZcU vs H Q E h⟩)
 exact(YW (ps_if (pt_val (C8.pe_c bc hr (by omega) rfl (YR (pv 0) YV))) (YX (Y7 (pe_chain op_lt op_lt (pe_un un_neg (C8.pe_gc rfl b8)) (pv 0) (C8.pe_gc rfl b8)))) YY)
 (YW (ps_if (Y6 (ZaC hr.units) (Xe Y5 (pv 0) Y2 (fun _ _=>rfl)) Y3 (Xb _)) (YX (Y7 (C8.pe_c b9 hr (by omega) rfl (YR (Xe Y5 (pv 0) Y2 (fun _ _=>rfl)) YV)))) YY)
 (YW (ps_if (Y6 (ZaC hr.units) (Xe Y5 (pv 0) Y2 (fun _ _=>rfl)) Y3 (Xb _)) (YX (Y7 (pe_and (C8.pe_c b9 hr (by omega) rfl (YR (Xe Y5 (pv 0) Y2 (fun _ _=>rfl)) YV)) (pe_one (C8.pe_c b9 hr (by omega) rfl (YR (Xe Y5 (pv 0) Y2 (fun _ _=>rfl)) YV)))))) YY)
 (YW (ps_if (Y6 (ZaC hr.units) (pv 1) (C8.pe_gc rfl bb) (Xb _)) (YX (Y7 pe_bl)) YY)
 (YX (Y7 (pe_and (C8.pe_c b3 hr (by omega) rfl (YR (Xe Y5 (pv 0) Y2 (fun _ _=>rfl)) (YR (pe_op Zaj (pv 1) Y2) YV))) (pe_one (C8.pe_c b3 hr (by omega) rfl (YR (Xe Y5 (pv 0) Y2 (fun _ _=>rfl)) (YR (pe_op Zaj (pv 1) Y2) YV)))))))))))
theorem ZU:Y_ ["path", "statement", "expr", "name"] ["path", "statement"] (YU Zm):=⟨rfl,rfl,rfl,by decide +kernel,rfl,by decide +kernel,by decide +kernel⟩
theorem ZdT{f:YD}{fd:YC}(F:FunD K "is_valid_statement" "is_valid_statement" (Y1 Zm) (Y0 Zm) (YU Zm) [] [] f fd) (B:Blt mg) (b8:C8.Cal P w K mg base 1 "expressions_of" (Zam K) []) (b3:C8.Cal P w K mg base 7 "is_valid_expression" (Zg K 5) []) (bc:C8.Cal P w K mg base 1 "names_of" (Zcs K) []) (bd:C8.Cal P w K mg base 1 "is_name" (Z6 K) []) (bb:C8.Cal P w K mg base 1 "depth_of" (Zct K) []) (b9:GI mg "MAX_DEPTH" 3):Xl P w K mg base CX0 (8 + 1) f fd ["path", "statement"] (ZR K):=by
 refine F.ok ZU (fun vs H Q E h=>by obtain⟨_,_,_,_,rfl,_⟩:=h; rfl) (fun cdv A outer s H vs Q E hr h=>⟨Zah K ,PSs.nox (?_),Zc5 vs H Q E h⟩)
 exact(YW (ps_if (PW.pt (pw_or (Y6 op_gt (C8.pe_c bb hr (by omega) rfl (YR (pv 0) YV)) (C8.pe_gc rfl b9) (Xb _)) (pw_or1 (Y6 (Zg4 hr.units) (pe_lc (own:=[("name",3)]) (g:=(Y4 3)) (tt:=(tNot (tB (Xm (Z6 K) [] E0 (YT (YS 3) YZ))))) rfl ZU.nd (Zcy (C8.pe_c bc hr (by omega) rfl (YR (pv 1) YV))) (blkOk_by (N:=["path", "statement", "expr", "name"]) (sc:=YU Zm) (by decide +kernel)) (fun _ _ _ _ _=>(gN 3 ZU.nd)) (fun _ _ _ _ _=>(pts_one (pt_not (pt_val (C8.pe_c bd hr (by omega) rfl (YR (pv 3) YV)))))) (fun _ _ _ _ _=>(pv 3))) (ZM YV) (Xb _))))) (YX (Y7 pe_bl)) YY)
 (YX (Y7 (pe_cmpR (ZaC hr.units) (pe_lc (own:=[("expr",2)]) (g:=(Y4 2)) (tt:=(tNot (tB (Xm (Zg K 5) [] E0 (YT (YS 2) (YT (tC (.int 0)) YZ)))))) rfl ZU.nd (Zcy (C8.pe_c b8 hr (by omega) rfl (YR (pv 1) YV))) (blkOk_by (N:=["path", "statement", "expr", "name"]) (sc:=YU Zm) (by decide +kernel)) (fun _ _ _ _ _=>(gN 2 ZU.nd)) (fun _ _ _ _ _=>(pts_one (pt_not (pt_val (C8.pe_c b3 hr (by omega) rfl (YR (pv 2) (YR Y2 YV))))))) (fun _ _ _ _ _=>(pv 2))) (ZM YV) (Xb _)))))
theorem Z2:Y_ ["block", "base", "found", "index", "statement", "path", "number", "inner"] ["block", "base"] (YU Z8):=⟨rfl,rfl,rfl,by decide +kernel,rfl,by decide +kernel,by decide +kernel⟩
theorem Zga{n:Nat}{f:YD}{fd:YC}(F:FunD K "statements_in" "statements_in" (Y1 Z8) (Y0 Z8) (YU Z8) [] [] f fd) (B:Blt mg) (b8:C8.Cal P w K mg base 1 "blocks_of" (Zb5 K) []) (b3:C8.Cal P w K mg base (n + 1) "statements_in" (Zk K n) []):Xl P w K mg base CX0 ((n + 1) + 1) f fd ["block", "base"] (Zk K (n + 1)):=by
 refine F.ok Z2 (fun vs H Q E h=>by obtain⟨_,_,_,_,rfl,_⟩:=h; rfl) (fun cdv A outer s H vs Q E hr h=>⟨ZbA K (Zk K n),PSs.nox (?_),Zfi vs H Q E h⟩)
 exact(YW (sN 2 Z2.nd (ZM YV))
 (YW (ps_for PassesOwn.never rfl (ZhC rfl B.enumerate (YR (pv 0) YV)) (pg_tup rfl (pgs_cons (gN 3 Z2.nd) (pgs_cons (gN 4 Z2.nd) pgs_nil))) (YW (sN 5 Z2.nd (pe_op Zaj (pv 1) (Zi (YR (pv 3) YV))))
 (YW (Xd (pe_bm PySem.F.plainAttrs_list PySem.F.slot_list_append PySem.F.type_list_append mt_append (pv 2) (YR (Zi (YR (pv 5) (YR (pv 4) YV))) YV)))
 (YX (ps_for PassesOwn.never rfl (ZhC rfl B.enumerate (YR (C8.pe_c b8 hr (by omega) rfl (YR (pv 4) YV)) YV)) (pg_tup rfl (pgs_cons (gN 6 Z2.nd) (pgs_cons (gN 7 Z2.nd) pgs_nil))) (YX (Xd (pe_bm PySem.F.plainAttrs_list PySem.F.slot_list_extend PySem.F.type_list_extend mt_extend (pv 2) (YR (C8.pe_c b3 hr (by omega) rfl (YR (pv 7) (YR (pe_op Zaj (pv 5) (Zi (YR (pv 6) YV))) YV))) YV)))))))))
 (YX (Y7 (pv 2)))))
theorem ZbW:Y_ ["index", "name", "block", "statements", "path", "statement"] ["index", "name", "block"] (YU Zaq):=⟨rfl,rfl,rfl,by decide +kernel,rfl,by decide +kernel,by decide +kernel⟩
theorem ZgZ{f:YD}{fd:YC}(F:FunD K "first_fault" "first_fault" (Y1 Zaq) (Y0 Zaq) (YU Zaq) [] [] f fd) (B:Blt mg) (b3:C8.Cal P w K mg base 9 "is_valid_statement" (ZR K) []) (bc:C8.Cal P w K mg base 1 "is_name" (Z6 K) []) (b9:C8.Cal P w K mg base 11 "statements_in" (Zk K 10) []) (b8:GI mg "MAX_STATEMENTS" 60) (bb:GI mg "MAX_MODULES" 8):Xl P w K mg base CX0 (12 + 1) f fd ["index", "name", "block"] (Zbh K):=by
 refine F.ok ZbW (fun vs H Q E h=>by obtain⟨_,_,_,_,rfl,_⟩:=h; rfl) (fun cdv A outer s H vs Q E hr h=>⟨Zcj K ,PSs.nox (?_),Zf5 vs H Q E h⟩)
 exact(YW (sN 3 ZbW.nd (C8.pe_c b9 hr (by omega) rfl (YR (pv 2) (YR (Zi YV) YV))))
 (YW (ps_if (PW.pt (pw_or (Y6 op_ge (pv 0) (C8.pe_gc rfl bb) (Xb _)) (pw_or (pt_not (pt_val (C8.pe_c bc hr (by omega) rfl (YR (pv 1) YV)))) (pw_or1 (Y6 op_gt (Xp ZaW rfl B.len ZaG (YR (pv 3) YV)) (C8.pe_gc rfl b8) (Xb _)))))) (YX (Y7 (Zi YV))) YY)
 (YW (ps_for PassesOwn.never rfl (Zcy (pv 3)) (pg_tup rfl (pgs_cons (gN 4 ZbW.nd) (pgs_cons (gN 5 ZbW.nd) pgs_nil))) (YX (ps_if (pt_not (pt_val (C8.pe_c b3 hr (by omega) rfl (YR (pv 4) (YR (pv 5) YV))))) (YX (Y7 (pv 4))) YY)))
 (YX (Y7 pe_non)))))
theorem ZP:Y_ ["self", "modules", "index", "name", "path"] ["self", "modules"] (YU ZB):=⟨rfl,rfl,rfl,by decide +kernel,rfl,by decide +kernel,by decide +kernel⟩
theorem ZeX{C p1 p2:YD}(T:Zd9 K C p1 p2){f:YD}{fd:YC}(F:FunD K "__init__" "Program.__init__" (Y1 ZB) (Y0 ZB) (YU ZB) [] [] f fd) (B:Blt mg) (b3:C8.Cal P w K mg base 13 "first_fault" (Zbh K) []):Xl P w K mg base CX0 (13 + 1) f fd ["self", "modules"] (Zf K C):=by
 refine F.ok ZP (fun vs H Q E h=>by obtain⟨_,_,_,_,rfl,_⟩:=h; rfl) (fun cdv A outer s H vs Q E hr h=>⟨ZaE K ,PSs.nox (?_),ZdC T vs H Q E h⟩)
 exact(YW (ps_for PassesOwn.never rfl (ZhC rfl B.enumerate (YR (Xp (Zgf rfl) rfl B.sorted Zfe (YR (pv 1) YV)) YV)) (pg_tup rfl (pgs_cons (gN 2 ZP.nd) (pgs_cons (gN 3 ZP.nd) pgs_nil))) (YW (sN 4 ZP.nd (C8.pe_c b3 hr (by omega) rfl (YR (pv 2) (YR (pv 3) (YR (Zco hr.units (pv 1) (pv 3) (fun _ _=>rfl)) YV)))))
 (YX (ps_if (Y6 op_notN1 (pv 4) pe_non (Xb _)) (YX ps_never) YY))))
 (YW (SlX.ps_sl (pv 0) (Xp (Zgf rfl) rfl B.sorted Zfe (YR (pv 1) YV)))
 (YX (SlX.ps_sl (pv 0) (pe_dc (own:=[("name",3)]) (g:=(Y4 3)) (tt:=tYes) rfl ZP.nd (Zcy (Xp (Zgf rfl) rfl B.sorted Zfe (YR (pv 1) YV))) (blkOk_by (N:=["self", "modules", "index", "name", "path"]) (sc:=YU ZB) (by decide +kernel)) (fun _ _ _ _ _=>(gN 3 ZP.nd)) (fun _ _ _ _ _=>pts_nil) (fun _ _ _ _ _=>(pv 3)) (fun _ _ _ _ _=>(Zco hr.units (pv 1) (pv 3) (fun _ _=>rfl))))))))
theorem Zc8:Y_ ["self", "x"] ["self", "x"] (YU Zr):=⟨rfl,rfl,rfl,by decide +kernel,rfl,by decide +kernel,by decide +kernel⟩
theorem Zc9{C p1 p2:YD}(T:Zd9 K C p1 p2){f:YD}{fd:YC}(F:FunD K "__contains__" "Program.__contains__" (Y1 Zr) (Y0 Zr) (YU Zr) [] [] f fd) (B:Blt mg)  : Xl P w K mg base CX0 (0 + 1) f fd ["self", "x"] (Zp K C):=by
 refine F.ok Zc8 (fun vs H Q E h=>by obtain⟨_,_,_,_,rfl,_⟩:=h; rfl) (fun cdv A outer s H vs Q E hr h=>⟨Z_ K ,PSs.nox (?_),ZcK T vs H Q E h⟩)
 exact(YX (Y7 (pe_cmp (ZnD hr.units (pv 1) (SlX.pe_sl (pv 0))))))
theorem Zdn:Y_ ["self", "at"] ["self", "at"] (YU Zh):=⟨rfl,rfl,rfl,by decide +kernel,rfl,by decide +kernel,by decide +kernel⟩
theorem Zdo{C p1 p2:YD}(T:Zd9 K C p1 p2){f:YD}{fd:YC}(F:FunD K "__getitem__" "Program.__getitem__" (Y1 Zh) (Y0 Zh) (YU Zh) [] [] f fd) (B:Blt mg)  : Xl P w K mg base CX0 (0 + 1) f fd ["self", "at"] (Zl K C):=by
 refine F.ok Zdn (fun vs H Q E h=>by obtain⟨_,_,_,_,_,rfl,_⟩:=h; rfl) (fun cdv A outer s H vs Q E hr h=>⟨Zac K ,PSs.nox (?_),ZcW T vs H Q E h⟩)
 exact(YW (ps_if (pt_cmp (Zc2 hr.units (pv 1) (SlX.pe_sl (pv 0)))) (YX ps_never) YY)
 (YX (Y7 (Zco hr.units (SlX.pe_sl (pv 0)) (pv 1) (fun _ _=>rfl)))))
theorem Zfu:Y_ ["self"] ["self"] (YU ZN):=⟨rfl,rfl,rfl,by decide +kernel,rfl,by decide +kernel,by decide +kernel⟩
theorem Zfv{C p1 p2:YD}(T:Zd9 K C p1 p2){f:YD}{fd:YC}(F:FunD K "__len__" "Program.__len__" (Y1 ZN) (Y0 ZN) (YU ZN) [] [] f fd) (B:Blt mg)  : Xl P w K mg base CX0 (0 + 1) f fd ["self"] (Zad K C):=by
 refine F.ok Zfu (fun vs H Q E h=>by obtain⟨_,_,_,rfl,_⟩:=h; rfl) (fun cdv A outer s H vs Q E hr h=>⟨ZaU K ,PSs.nox (?_),ZeC T vs H Q E h⟩)
 exact(YX (Y7 (Xp ZaW rfl B.len ZaG (YR (SlX.pe_sl (pv 0)) YV))))
theorem ZfR:Y_ ["self", "other"] ["self", "other"] (YU ZX):=⟨rfl,rfl,rfl,by decide +kernel,rfl,by decide +kernel,by decide +kernel⟩
theorem ZfS{C p1 p2:YD}(T:Zd9 K C p1 p2)(si:SIsi K C)(ki:PySem.W.kitOne K (.ref C) (.ref C)=some true)(gPrg:∃ u,mg "Program" = some u∧RelV (.ref C) u) {f:YD} {fd:YC} (F:FunD K "__eq__" "Program.__eq__" (Y1 ZX) (Y0 ZX) (YU ZX) [] [] f fd) (B:Blt mg)  : Xl P w K mg base CX0 (0 + 1) f fd ["self", "other"] (Zz K C):=by
 refine F.ok ZfR (fun vs H Q E h=>by obtain⟨_,_,_,_,_,_,rfl,_⟩:=h; rfl) (fun cdv A outer s H vs Q E hr h=>⟨Zbm K C,PSs.nox (?_),ZeV T si ki vs H Q E h⟩)
 exact(YX (Y7 (pe_and (Xp (call_isiSl (.ref C)) rfl B.isinstance Zo (YR (pv 1) (YR (C8.pe_gc rfl gPrg) YV))) (pe_one (pe_cmpR (ZlD (ZqB hr)) (SlX.pe_sl (pv 0)) (SlX.pe_sl (pv 1)) (Xb _))))))
theorem ZfT:Y_ ["self", "other"] ["self", "other"] (YU ZY):=⟨rfl,rfl,rfl,by decide +kernel,rfl,by decide +kernel,by decide +kernel⟩
theorem ZfU{C p1 p2:YD}(T:Zd9 K C p1 p2){f:YD}{fd:YC}(F:FunD K "__or__" "Program.__or__" (Y1 ZY) (Y0 ZY) (YU ZY) [] [] f fd) (B:Blt mg) (b3:C8.Mak P w K mg base 14 "Program" C (Zf K C) []):Xl P w K mg base CX0 (15 + 1) f fd ["self", "other"] (Zao K C):=by
 refine F.ok ZfT (fun vs H Q E h=>by obtain⟨_,_,_,_,_,_,rfl,_⟩:=h; rfl) (fun cdv A outer s H vs Q E hr h=>⟨Zbn K C,PSs.nox (?_),ZeW T vs H Q E h⟩)
 exact(YX (Y7 (C8.pe_mk b3 hr (by omega) rfl (YR (Zp4 (SlX.pe_sl (pv 0)) (SlX.pe_sl (pv 1))) YV))))
theorem ZeD:Y_ ["self"] ["self"] (YU ZG):=⟨rfl,rfl,rfl,by decide +kernel,rfl,by decide +kernel,by decide +kernel⟩
theorem ZeE{C p1 p2:YD}(T:Zd9 K C p1 p2){f:YD}{fd:YC}(F:FunD K "all_names" "Program.all_names" (Y1 ZG) (Y0 ZG) (YU ZG) [] [] f fd) (B:Blt mg)  : Xl P w K mg base CX0 (2 + 1) f fd ["self"] (Z3 K C):=by
 refine F.ok ZeD (fun vs H Q E h=>by obtain⟨_,_,_,rfl,_⟩:=h; rfl) (fun cdv A outer s H vs Q E hr h=>⟨Zav K ,PSs.nox (?_),Zdj T vs H Q E h⟩)
 exact(YX (Y7 (pe_callTy ZkP rfl B.list Zc1 (YR (SlX.pe_sl (pv 0)) YV))))
theorem Zdp:Y_ ["self", "name", "block"] ["self", "name", "block"] (YU Zv):=⟨rfl,rfl,rfl,by decide +kernel,rfl,by decide +kernel,by decide +kernel⟩
theorem Zdq{C p1 p2:YD}(T:Zd9 K C p1 p2){f:YD}{fd:YC}(F:FunD K "with_module" "Program.with_module" (Y1 Zv) (Y0 Zv) (YU Zv) [] [] f fd) (B:Blt mg) (b3:C8.Mak P w K mg base 14 "Program" C (Zf K C) []):Xl P w K mg base CX0 (15 + 1) f fd ["self", "name", "block"] (ZD K C):=by
 refine F.ok Zdp (fun vs H Q E h=>by obtain⟨_,_,_,_,_,_,rfl,_⟩:=h; rfl) (fun cdv A outer s H vs Q E hr h=>⟨Zae K C,PSs.nox (?_),ZcX T vs H Q E h⟩)
 exact(YX (Y7 (C8.pe_mk b3 hr (by omega) rfl (YR (Zr0 (SlX.pe_sl (pv 0)) (pv 1) (pv 2)) YV))))
theorem ZdU:Y_ ["self", "name"] ["self", "name"] (YU Zj):=⟨rfl,rfl,rfl,by decide +kernel,rfl,by decide +kernel,by decide +kernel⟩
theorem ZdV{C p1 p2:YD}(T:Zd9 K C p1 p2){f:YD}{fd:YC}(F:FunD K "statements" "Program.statements" (Y1 Zj) (Y0 Zj) (YU Zj) [] [] f fd) (B:Blt mg) (b3:C8.Cal P w K mg base 11 "statements_in" (Zk K 10) []):Xl P w K mg base CX0 (11 + 1) f fd ["self", "name"] (ZT K C):=by
 refine F.ok ZdU (fun vs H Q E h=>by obtain⟨_,_,_,_,_,rfl,_⟩:=h; rfl) (fun cdv A outer s H vs Q E hr h=>⟨Zai K ,PSs.nox (?_),Zc6 T vs H Q E h⟩)
 exact(YW (ps_if (pt_cmp (Zc2 hr.units (pv 1) (SlX.pe_sl (pv 0)))) (YX ps_never) YY)
 (YX (Y7 (C8.pe_c b3 hr (by omega) rfl (YR (Zco hr.units (SlX.pe_sl (pv 0)) (pv 1) (fun _ _=>rfl)) (YR (Zi YV) YV))))))
theorem Zc_:Y_ ["self", "at"] ["self", "at"] (YU Zh):=⟨rfl,rfl,rfl,by decide +kernel,rfl,by decide +kernel,by decide +kernel⟩
theorem Zda{C p1 p2 CU:YD}(T:Zd9 K C p1 p2){f:YD}{fd:YC}(F:FunD K "__getitem__" "Program.__getitem__" (Y1 Zh) (Y0 Zh) (YU Zh) [] [] f fd) (B:Blt mg) (b3:XMk P w K mg base 1 "UnknownModule" CU ["module"]):Xl P w K mg base (L2N.CX P w) (2 + 1) f fd ["self", "at"] (ZA K C CU):=by
 refine F.ok Zc_ (fun vs H Q E h=>by obtain⟨_,_,_,_,rfl,_⟩:=h; rfl) (fun cdv A outer s H vs Q E hr h=>⟨Zaa K CU (w0 E),?_,ZcM T vs H Q E h⟩)
 have tk:L2N.Takes (cxOf (L2N.CX P w) P w K mg base ["self", "at"] "Program.__getitem__" (YU Zh) f cdv A outer s H E) (w0 E):=Zk_
 have tc:Zk0 (cxOf (L2N.CX P w) P w K mg base ["self", "at"] "Program.__getitem__" (YU Zh) f cdv A outer s H E):=ZqN
 exact(YW (ps_if (pt_cmp (Zc2 hr.units (pv 1) (SlX.pe_sl (pv 0)))) (YX (L2N.ps_raise rfl tk (b3.mk hr (by omega) rfl (pk_cons (pv 1) pk_nil)))) YY)
 (YX (Y7 (Zco hr.units (SlX.pe_sl (pv 0)) (pv 1) (fun _ _=>rfl)))))
theorem Zdr:Y_ ["self", "name"] ["self", "name"] (YU Zj):=⟨rfl,rfl,rfl,by decide +kernel,rfl,by decide +kernel,by decide +kernel⟩
theorem Zds{C p1 p2 CU:YD}(T:Zd9 K C p1 p2){f:YD}{fd:YC}(F:FunD K "statements" "Program.statements" (Y1 Zj) (Y0 Zj) (YU Zj) [] [] f fd) (B:Blt mg) (b8:C8.Cal P w K mg base 11 "statements_in" (Zk K 10) []) (b3:XMk P w K mg base 1 "UnknownModule" CU ["module"]):Xl P w K mg base (L2N.CX P w) (11 + 1) f fd ["self", "name"] (ZE K C CU):=by
 refine F.ok Zdr (fun vs H Q E h=>by obtain⟨_,_,_,_,rfl,_⟩:=h; rfl) (fun cdv A outer s H vs Q E hr h=>⟨Zaf K CU (w0 E),?_,ZcZ T vs H Q E h⟩)
 have tk:L2N.Takes (cxOf (L2N.CX P w) P w K mg base ["self", "name"] "Program.statements" (YU Zj) f cdv A outer s H E) (w0 E):=Zk_
 have tc:Zk0 (cxOf (L2N.CX P w) P w K mg base ["self", "name"] "Program.statements" (YU Zj) f cdv A outer s H E):=ZqN
 exact(YW (ps_if (pt_cmp (Zc2 hr.units (pv 1) (SlX.pe_sl (pv 0)))) (YX (L2N.ps_raise rfl tk (b3.mk hr (by omega) rfl (pk_cons (pv 1) pk_nil)))) YY)
 (YX (Y7 (C8.pe_c b8 hr (by omega) rfl (YR (Zco hr.units (SlX.pe_sl (pv 0)) (pv 1) (fun _ _=>rfl)) (YR (Zi YV) YV))))))
theorem ZC:Y_ ["self", "names", "name"] ((["self"]:List Str)++[("names" : Str)]) (YU Ze):=⟨rfl,rfl,rfl,by decide +kernel,rfl,by decide +kernel,by decide +kernel⟩
theorem ZeY{C p1 p2 CU:YD}(T:Zd9 K C p1 p2){f:YD}{fd:YC}(F:FunD K "without" "Program.without" (Y1 Ze) (Y0 Ze) (YU Ze) [] [] f fd) (B:Blt mg) (b8:C8.Mak P w K mg base 14 "Program" C (Zf K C) [])
  (b3:XMk P w K mg base 1 "UnknownModule" CU ["module"]):FnR P w K mg base (L2N.CX P w) (15 + 1) f (Zbv K C CU):=by
 refine M.FunD.starX Zsc (ps:=["self"]) (pv := "names") F ZC (fun kV doc pm an cdv ct us rest hl=>StX.bind_star1 (B:=fun vs=>bindArgs (PySem.W.fnOf "without" "Program.without" (Y1 Ze) (Y0 Ze) (YU Ze) .none kV doc pm an cdv ct) ⟨vs,[]⟩) (fun _=>rfl) (fun _ _ _=>rfl) us rest hl) (fun cdv A outer s H vs Q E hr h=>⟨Z7 K C CU (w0 E),?_,Zh6 T vs H Q E h⟩)
 have tk:L2N.Takes (cxOf (L2N.CX P w) P w K mg base ["self", "names", "name"] "Program.without" (YU Ze) f cdv A outer s H E) (w0 E):=Zk_
 exact
 (YW (ps_for (passes_of rfl) rfl (Zcy (pv 1)) (gN 2 ZC.nd) (YX (ps_if (pt_cmp (Zc2 hr.units (pv 2) (SlX.pe_sl (pv 0)))) (YX (L2N.ps_raise rfl tk (b3.mk hr (by omega) rfl (pk_cons (pv 2) pk_nil)))) YY)))
 (YX (Y7 (C8.pe_mk b8 hr (by omega) rfl (YR (pe_dc (own:=[("name",2)]) (g:=(Y4 2)) (tt:=(Xc (tOp (ZcI K) (YS 2) (YS 1)))) rfl ZC.nd (Zcy (SlX.pe_sl (pv 0))) (blkOk_by (N:=["self", "names", "name"]) (sc:=YU Ze) (by decide +kernel)) (fun _ _ _ _ _=>(gN 2 ZC.nd)) (fun _ _ _ _ _=>(pts_one (Y6 Ze5 (pv 2) (pv 1) rfl))) (fun _ _ _ _ _=>(pv 2)) (fun _ _ _ _ _=>(Zco hr.units (SlX.pe_sl (pv 0)) (pv 2) (fun _ _=>rfl)))) YV)))))
theorem ZeZ{C p1 p2 CU:YD}(T:Zd9 K C p1 p2){f:YD}{fd:YC}(F:FunD K "without" "Program.without" (Y1 Ze) (Y0 Ze) (YU Ze) [] [] f fd) (B:Blt mg) (b8:C8.Mak P w K mg base 14 "Program" C (Zf K C) [])
  (b3:XMk P w K mg base 1 "UnknownModule" CU ["module"]):FnR P w K mg base CX0 (15 + 1) f (ZbU K C):=by
 refine M.FunD.starR (ps:=["self"]) (pv := "names") F ZC (fun kV doc pm an cdv ct us rest hl=>StX.bind_star1 (B:=fun vs=>bindArgs (PySem.W.fnOf "without" "Program.without" (Y1 Ze) (Y0 Ze) (YU Ze) .none kV doc pm an cdv ct) ⟨vs,[]⟩) (fun _=>rfl) (fun _ _ _=>rfl) us rest hl) (fun cdv A outer s H vs Q E hr h=>⟨Z7 K C CU (fun _ _ _ _=>False),?_,Zh7 T vs H Q E h⟩)
 have tk:L2N.Takes (cxOf CX0 P w K mg base ["self", "names", "name"] "Program.without" (YU Ze) f cdv A outer s H E) (fun _ _ _ _=>False):=takes0
 exact
 (YW (ps_for (passes_of rfl) rfl (Zcy (pv 1)) (gN 2 ZC.nd) (YX (ps_if (pt_cmp (Zc2 hr.units (pv 2) (SlX.pe_sl (pv 0)))) (YX (L2N.ps_raise rfl tk (b3.mk hr (by omega) rfl (pk_cons (pv 2) pk_nil)))) YY)))
 (YX (Y7 (C8.pe_mk b8 hr (by omega) rfl (YR (pe_dc (own:=[("name",2)]) (g:=(Y4 2)) (tt:=(Xc (tOp (ZcI K) (YS 2) (YS 1)))) rfl ZC.nd (Zcy (SlX.pe_sl (pv 0))) (blkOk_by (N:=["self", "names", "name"]) (sc:=YU Ze) (by decide +kernel)) (fun _ _ _ _ _=>(gN 2 ZC.nd)) (fun _ _ _ _ _=>(pts_one (Y6 Ze5 (pv 2) (pv 1) rfl))) (fun _ _ _ _ _=>(pv 2)) (fun _ _ _ _ _=>(Zco hr.units (SlX.pe_sl (pv 0)) (pv 2) (fun _ _=>rfl)))) YV)))))
theorem Zea:Y_ ["_law_script", "_law_seed", "_law_state", "_law_cell"] ["_law_script", "_law_seed"] (YU Zcq):=⟨rfl,rfl,rfl,by decide +kernel,rfl,by decide +kernel,by decide +kernel⟩
theorem ZkM{f:YD}{fd:YC}(F:FunD K "_law_mix" "_law_mix" (Y1 Zcq) (Y0 Zcq) (YU Zcq) [] [] f fd) (B:Blt mg)  : Xl P w K mg base CX0 (0 + 1) f fd ["_law_script", "_law_seed"] (ZcT K):=by
 refine F.ok Zea (fun vs H Q E h=>by obtain⟨_,_,_,rfl,_⟩:=h; rfl) (fun cdv A outer s H vs Q E hr h=>⟨Zff K ,PSs.nox (?_),ZiB vs H Q E h⟩)
 exact(YW (sN 2 Zea.nd (pv 1))
 (YW (ps_for PassesOwn.never rfl (Zcy (pv 0)) (gN 3 Zea.nd) (YX (sN 2 Zea.nd (pe_op op_mod (pe_callTy Zgl rfl B.int Ze2 (YR (pe_op Zaj (pe_op Zaj (pe_op op_mul (pv 2) Y2) (pe_op op_mod (pe_callTy Zgl rfl B.int Ze2 (YR (pv 3) YV)) Y2)) Y2) YV)) Y2))))
 (YX (Y7 (ZM (YR (pv 2) (YR (pe_callTy ZkP rfl B.list Zc1 (YR (pv 0) YV)) (YR Y2 YV))))))))
theorem ZgR:Y_ ["_law_h", "_law_cap", "_law_cell"] ["_law_h", "_law_cap"] (YU ZbM):=⟨rfl,rfl,rfl,by decide +kernel,rfl,by decide +kernel,by decide +kernel⟩
theorem ZjK{f:YD}{fd:YC}(F:FunD K "_law_next" "_law_next" (Y1 ZbM) (Y0 ZbM) (YU ZbM) [] [] f fd) (B:Blt mg)  : Xl P w K mg base CX0 (0 + 1) f fd ["_law_h", "_law_cap"] (Zb K):=by
 refine F.ok ZgR (fun vs H Q E h=>by obtain⟨_,_,_,rfl,_⟩:=h; rfl) (fun cdv A outer s H vs Q E hr h=>⟨Zd0 K ,PSs.nox (?_),ZhN vs H Q E h⟩)
 exact(YW (sN 2 ZgR.nd (Xe Y5 (pe_op Zaj (Xe Y5 (pv 0) Y2 (fun _ _=>rfl)) (ZM (YR Y2 YV))) (pe_op op_mod (pe_callTy Zgl rfl B.int Ze2 (YR (Xe Y5 (pv 0) Y2 (fun _ _=>rfl)) YV)) (Xp (ZoJ rfl) rfl B.max ZoH (YR Y2 (YR (Xp ZaW rfl B.len ZaG (YR (Xe Y5 (pv 0) Y2 (fun _ _=>rfl)) YV)) YV)))) (fun _ _=>rfl)))
 (YW (ps_if (Y6 op_ge (pv 2) (pe_op op_pow Y2 Y2) (Xb _)) (YW (ps_asg (pe_op op_fdivW (pv 2) (pv 1)) (pg_sub (Xe Y5 (pv 0) Y2 (fun _ _=>rfl)) (pe_op op_mod (pe_callTy Zgl rfl B.int Ze2 (YR (Xe Y5 (pv 0) Y2 (fun _ _=>rfl)) YV)) (Xp ZaW rfl B.len ZaG (YR (Xe Y5 (pv 0) Y2 (fun _ _=>rfl)) YV))) set_list))
 (YX (Y7 (pe_op op_mod (pe_callTy Zgl rfl B.int Ze2 (YR (pv 2) YV)) (pv 1))))) YY)
 (YW (ps_asg (pe_op op_mod (pe_callTy Zgl rfl B.int Ze2 (YR (pe_op Zaj (pe_op Zaj (pe_op op_mul (Xe Y5 (pv 0) Y2 (fun _ _=>rfl)) Y2) (pe_op op_mul (pv 2) Y2)) Y2) YV)) Y2) (pg_sub (pv 0) Y2 set_list))
 (YW (ps_asg (pe_op Zaj (Xe Y5 (pv 0) Y2 (fun _ _=>rfl)) Y2) (pg_sub (pv 0) Y2 set_list))
 (YX (Y7 (pe_op op_mod (pe_callTy Zgl rfl B.int Ze2 (YR (pe_op op_fdivW (Xe Y5 (pv 0) Y2 (fun _ _=>rfl)) Y2) YV)) (pv 1))))))))
theorem ZdW:Y_ ["_law_found", "_law_due", "_law_k"] ["_law_found", "_law_due"] (YU ZaI):=⟨rfl,rfl,rfl,by decide +kernel,rfl,by decide +kernel,by decide +kernel⟩
theorem Zi2{n:Nat}{f:YD}{fd:YC}(F:FunD K "_law_alike" "_law_alike" (Y1 ZaI) (Y0 ZaI) (YU ZaI) [] [] f fd) (B:Blt mg) (b3:C8.Cal P w K mg base (n + 1) "_law_alike" (Zy K n) []):Xl P w K mg base CX0 ((n + 1) + 1) f fd ["_law_found", "_law_due"] (Zy K (n + 1)):=by
 refine F.ok ZdW (fun vs H Q E h=>by obtain⟨_,_,rfl,_⟩:=h; rfl) (fun cdv A outer s H vs Q E hr h=>⟨Zc7 K (Zy K n),PSs.nox (?_),ZgY vs H Q E h⟩)
 exact(YW (ps_if (pt_val (Xp call_isi rfl B.isinstance Zo (YR (pv 1) (YR (pe_bltn rfl B.dict ZeL rfl) YV)))) (YX (Y7 (pe_and (Xp call_isi rfl B.isinstance Zo (YR (pv 0) (YR (pe_bltn rfl B.dict ZeL rfl) YV))) (pe_and (C8.pe_c b3 hr (by omega) rfl (YR (pe_callTy (Zh1 rfl) rfl B.list Zc1 (YR (pv 0) YV)) (YR (pe_callTy (Zh1 rfl) rfl B.list Zc1 (YR (pv 1) YV)) YV))) (pe_one (pe_cmpR (ZlB (ZqB hr)) (pv 0) (pv 1) (Xb _))))))) YY)
 (YW (ps_if (pt_val (Xp call_isiT rfl B.isinstance Zo (YR (pv 1) (YR (Zly (YR (pe_bltn rfl B.tuple ZjS rfl) (YR (pe_bltn rfl B.list Zc1 rfl) YV))) YV)))) (YW (ps_if (PW.pt (pw_or (pt_not (pt_val (Xp call_isiT rfl B.isinstance Zo (YR (pv 0) (YR (Zly (YR (pe_bltn rfl B.tuple ZjS rfl) (YR (pe_bltn rfl B.list Zc1 rfl) YV))) YV))))) (pw_or1 (Y6 (Zg4 hr.units) (Xp call_isi rfl B.isinstance Zo (YR (pv 0) (YR (pe_bltn rfl B.list Zc1 rfl) YV))) (Xp call_isi rfl B.isinstance Zo (YR (pv 1) (YR (pe_bltn rfl B.list Zc1 rfl) YV))) (Xb _))))) (YX (Y7 pe_bl)) YY)
 (YW (ps_if (Y6 (Zg4 hr.units) (Xp ZaW rfl B.len ZaG (YR (pv 0) YV)) (Xp ZaW rfl B.len ZaG (YR (pv 1) YV)) (Xb _)) (YX (Y7 pe_bl)) YY)
 (YX (Y7 (pe_cmpR (ZaC hr.units) (pe_lc (own:=[("_law_k",2)]) (g:=(Y4 2)) (tt:=(tNot (tB (Xm (Zy K n) [] E0 (YT (tOp (rIx K) (YS 0) (YS 2)) (YT (tOp (rIx K) (YS 1) (YS 2)) YZ)))))) rfl ZdW.nd (pi_range1 rfl B.range (YR (Xp ZaW rfl B.len ZaG (YR (pv 1) YV)) YV)) (blkOk_by (N:=["_law_found", "_law_due", "_law_k"]) (sc:=YU ZaI) (by decide +kernel)) (fun _ _ _ _ _=>(gN 2 ZdW.nd)) (fun _ _ _ _ _=>(pts_one (pt_not (pt_val (C8.pe_c b3 hr (by omega) rfl (YR (Xe Y5 (pv 0) (pv 2) (fun _ _=>rfl)) (YR (Xe Y5 (pv 1) (pv 2) (fun _ _=>rfl)) YV))))))) (fun _ _ _ _ _=>(pv 2))) (ZM YV) (Xb _)))))) YY)
 (YW (ps_if (PW.pt (pw_or (Y6 op_isN1 (pv 1) pe_non (Xb _)) (pw_or1 (pt_val (Xp call_isi rfl B.isinstance Zo (YR (pv 1) (YR (pe_bltn rfl B.str ZkO rfl) YV))))))) (YX (Y7 (pe_and (pe_cmpR (ZlB (ZqB hr)) (pv 0) (pv 1) (Xb _)) (pe_one (pe_cmpR (ZaC hr.units) (Xp call_isi rfl B.isinstance Zo (YR (pv 0) (YR (pe_bltn rfl B.str ZkO rfl) YV))) (Xp call_isi rfl B.isinstance Zo (YR (pv 1) (YR (pe_bltn rfl B.str ZkO rfl) YV))) (Xb _)))))) YY)
 (YX (Y7 (pe_and (Xp call_isi rfl B.isinstance Zo (YR (pv 0) (YR (pe_bltn rfl B.int Ze2 rfl) YV))) (pe_and (pe_cmpR (ZaC hr.units) (Xp call_isi rfl B.isinstance Zo (YR (pv 0) (YR (pe_bltn rfl B.bool Zi5 rfl) YV))) (Xp call_isi rfl B.isinstance Zo (YR (pv 1) (YR (pe_bltn rfl B.bool Zi5 rfl) YV))) (Xb _)) (pe_one (pe_cmpR (ZlB (ZqB hr)) (pv 0) (pv 1) (Xb _))))))))))
theorem Zcx:Y_ ["_law_h", "_law_words", "_law_letters", "_law_k"] ["_law_h"] (YU Zbr):=⟨rfl,rfl,rfl,by decide +kernel,rfl,by decide +kernel,by decide +kernel⟩
theorem ZjL{f:YD}{fd:YC}(F:FunD K "_law_name" "_law_name" (Y1 Zbr) (Y0 Zbr) (YU Zbr) [] [] f fd) (B:Blt mg) (b3:C8.Cal P w K mg base 1 "_law_next" (Zb K) []):Xl P w K mg base CX0 (1 + 1) f fd ["_law_h"] (ZbQ K):=by
 refine F.ok Zcx (fun vs H Q E h=>by obtain⟨_,_,rfl,_⟩:=h; rfl) (fun cdv A outer s H vs Q E hr h=>⟨Zd1 K ,PSs.nox (?_),ZhP vs H Q E h⟩)
 exact(YW (sN 1 Zcx.nd (ZM (YR Y3 (YR Y3 (YR Y3 (YR Y3 (YR Y3 (YR Y3 (YR Y3 (YR Y3 (YR Y3 (YR Y3 (YR Y3 (YR Y3 (YR Y3 (YR Y3 YV))))))))))))))))
 (YW (sN 2 Zcx.nd Y3)
 (YW (ps_if (Y6 (ZaC hr.units) (C8.pe_c b3 hr (by omega) rfl (YR (pv 0) (YR Y2 YV))) Y2 (Xb _)) (YX (Y7 (Xe Y5 (pv 1) (C8.pe_c b3 hr (by omega) rfl (YR (pv 0) (YR Y2 YV))) (fun _ _=>rfl)))) YY)
 (YX (Y7 (Zl9 Y3 (pe_lc (own:=[("_law_k",3)]) (g:=(Y4 3)) (tt:=tYes) rfl Zcx.nd (pi_range1 rfl B.range (YR (pe_op Zaj Y2 (C8.pe_c b3 hr (by omega) rfl (YR (pv 0) (YR (Xe Y5 (ZM (YR Y2 (YR Y2 YV))) (C8.pe_c b3 hr (by omega) rfl (YR (pv 0) (YR Y2 YV))) (fun _ _=>rfl)) YV)))) YV)) (blkOk_by (N:=["_law_h", "_law_words", "_law_letters", "_law_k"]) (sc:=YU Zbr) (by decide +kernel)) (fun _ _ _ _ _=>(gN 3 Zcx.nd)) (fun _ _ _ _ _=>pts_nil) (fun _ _ _ _ _=>(Xe Y5 (pv 2) (C8.pe_c b3 hr (by omega) rfl (YR (pv 0) (YR Y2 YV))) (fun _ _=>rfl))))))))))
theorem ZcF:Y_ ["_law_h", "_law_many", "_law_found", "_law_k", "_law_name_here"] ["_law_h", "_law_many"] (YU Zbq):=⟨rfl,rfl,rfl,by decide +kernel,rfl,by decide +kernel,by decide +kernel⟩
theorem Zi3{f:YD}{fd:YC}(F:FunD K "_law_names" "_law_names" (Y1 Zbq) (Y0 Zbq) (YU Zbq) [] [] f fd) (B:Blt mg) (b8:C8.Cal P w K mg base 1 "_law_next" (Zb K) []) (b3:C8.Cal P w K mg base 2 "_law_name" (ZbQ K) []):Xl P w K mg base CX0 (2 + 1) f fd ["_law_h", "_law_many"] (Zbu K):=by
 refine F.ok ZcF (fun vs H Q E h=>by obtain⟨_,_,_,rfl,_⟩:=h; rfl) (fun cdv A outer s H vs Q E hr h=>⟨Zc3 K ,PSs.nox (?_),ZgW vs H Q E h⟩)
 exact(YW (sN 2 ZcF.nd (ZM YV))
 (YW (ps_for PassesOwn.never rfl (pi_range1 rfl B.range (YR (pe_op Zaj Y2 (C8.pe_c b8 hr (by omega) rfl (YR (pv 0) (YR (pv 1) YV)))) YV)) (gN 3 ZcF.nd) (YW (sN 4 ZcF.nd (C8.pe_c b3 hr (by omega) rfl (YR (pv 0) YV)))
 (YX (ps_if (Y6 Ze5 (pv 4) (pv 2) rfl) (YX (Xd (pe_bm PySem.F.plainAttrs_list PySem.F.slot_list_append PySem.F.type_list_append mt_append (pv 2) (YR (pv 4) YV)))) YY))))
 (YX (Y7 (pv 2)))))
theorem ZeK:Y_ ["_law_h", "_law_kind"] ["_law_h"] (YU Zar):=⟨rfl,rfl,rfl,by decide +kernel,rfl,by decide +kernel,by decide +kernel⟩
theorem Zg0{f:YD}{fd:YC}(F:FunD K "_law_integer" "_law_integer" (Y1 Zar) (Y0 Zar) (YU Zar) [] [] f fd) (B:Blt mg) (b3:C8.Cal P w K mg base 1 "_law_next" (Zb K) []):Xl P w K mg base CX0 (1 + 1) f fd ["_law_h"] (ZL K):=by
 refine F.ok ZeK (fun vs H Q E h=>by obtain⟨_,_,rfl,_⟩:=h; rfl) (fun cdv A outer s H vs Q E hr h=>⟨Zci K ,PSs.nox (?_),Zf3 vs H Q E h⟩)
 exact(YW (sN 1 ZeK.nd (C8.pe_c b3 hr (by omega) rfl (YR (pv 0) (YR Y2 YV))))
 (YW (ps_if (Y6 op_lt (pv 1) Y2 (Xb _)) (YX (Y7 (pv 1))) YY)
 (YW (ps_if (Y6 (ZaC hr.units) (pv 1) Y2 (Xb _)) (YX (Y7 (pe_op op_sub (pe_op op_sub (pe_op op_pow Y2 Y2) Y2) (C8.pe_c b3 hr (by omega) rfl (YR (pv 0) (YR Y2 YV)))))) YY)
 (YX (Y7 (pe_op op_mul (Xe Y5 (ZM (YR Y2 (YR (pe_un un_neg Y2) YV))) (C8.pe_c b3 hr (by omega) rfl (YR (pv 0) (YR Y2 YV))) (fun _ _=>rfl)) (C8.pe_c b3 hr (by omega) rfl (YR (pv 0) (YR (Xe Y5 (ZM (YR Y2 (YR Y2 (YR (pe_op op_pow Y2 Y2) YV)))) (pe_op op_sub (pv 1) Y2) (fun _ _=>rfl)) YV)))))))))
theorem ZgS:Y_ ["_law_h", "_law_names_here", "_law_depth", "_law_kind", "_law_name_here"] ["_law_h", "_law_names_here", "_law_depth"] (YU ZbN):=⟨rfl,rfl,rfl,by decide +kernel,rfl,by decide +kernel,by decide +kernel⟩
theorem ZjM{n:Nat}{f:YD}{fd:YC}(F:FunD K "_law_expr" "_law_expr" (Y1 ZbN) (Y0 ZbN) (YU ZbN) [] [] f fd) (B:Blt mg) (b9:C8.Cal P w K mg base 2 "_law_integer" (ZL K) []) (b3:C8.Cal P w K mg base 1 "_law_next" (Zb K) []) (b8:C8.Cal P w K mg base (n + 2) "_law_expr" (ZO K n) []):Xl P w K mg base CX0 ((n + 2) + 1) f fd ["_law_h", "_law_names_here", "_law_depth"] (ZO K (n + 1)):=by
 refine F.ok ZgS (fun vs H Q E h=>by obtain⟨_,_,_,_,_,rfl,_⟩:=h; rfl) (fun cdv A outer s H vs Q E hr h=>⟨Zd2 K (ZO K n),PSs.nox (?_),ZhR vs H Q E h⟩)
 exact(YW (ps_par rfl ZgS.nd rfl rfl (by decide) rfl rfl (YR (C8.pe_c b3 hr (by omega) rfl (YR (pv 0) (YR Y2 YV))) (YR (Xe Y5 (pv 1) (C8.pe_c b3 hr (by omega) rfl (YR (pv 0) (YR (Xp ZaW rfl B.len ZaG (YR (pv 1) YV)) YV))) (fun _ _=>rfl)) YV)) (by rfl))
 (YW (ps_if (PW.pt (pw_and (Y6 op_gt (pv 3) Y2 (Xb _)) (pw_and1 (Y6 op_gt (pv 2) Y2 (Xb _))))) (YX (Y7 (Zi (YR (Xe Y5 (ZM (YR Y3 (YR Y3 YV))) (pe_op op_sub (pv 3) Y2) (fun _ _=>rfl)) (YR (C8.pe_c b8 hr (by omega) rfl (YR (pv 0) (YR (pv 1) (YR (pe_op op_sub (pv 2) Y2) YV)))) (YR (C8.pe_c b8 hr (by omega) rfl (YR (pv 0) (YR (pv 1) (YR (pe_op op_sub (pv 2) Y2) YV)))) YV)))))) YY)
 (YW (ps_if (Y6 (ZaC hr.units) (pv 3) Y2 (Xb _)) (YX (Y7 (Zi (YR Y3 (YR (pv 4) (YR (Xe Y5 (pv 1) (C8.pe_c b3 hr (by omega) rfl (YR (pv 0) (YR (Xp ZaW rfl B.len ZaG (YR (pv 1) YV)) YV))) (fun _ _=>rfl)) YV)))))) YY)
 (YX (Y7 (pe_ifExp (Y6 op_gt (pv 3) Y2 (Xb _)) (Zi (YR Y3 (YR (pv 4) YV))) (C8.pe_c b9 hr (by omega) rfl (YR (pv 0) YV))))))))
theorem Ze0:Y_ ["_law_h", "_law_modules", "_law_names_here", "_law_target", "_law_name_here", "_law_wanted", "_law_kind"] ["_law_h", "_law_modules", "_law_names_here"] (YU ZbO):=⟨rfl,rfl,rfl,by decide +kernel,rfl,by decide +kernel,by decide +kernel⟩
theorem ZjN{f:YD}{fd:YC}(F:FunD K "_law_load" "_law_load" (Y1 ZbO) (Y0 ZbO) (YU ZbO) [] [] f fd) (B:Blt mg) (b3:C8.Cal P w K mg base 1 "_law_next" (Zb K) []):Xl P w K mg base CX0 (1 + 1) f fd ["_law_h", "_law_modules", "_law_names_here"] (Zcu K):=by
 refine F.ok Ze0 (fun vs H Q E h=>by obtain⟨_,_,_,_,_,_,rfl,_⟩:=h; rfl) (fun cdv A outer s H vs Q E hr h=>⟨Zd7 K ,PSs.nox (?_),ZhX vs H Q E h⟩)
 exact(YW (sN 3 Ze0.nd (pe_ifExp (Y6 op_gt (C8.pe_c b3 hr (by omega) rfl (YR (pv 0) (YR Y2 YV))) Y2 (Xb _)) (Xe Y5 (pv 1) (C8.pe_c b3 hr (by omega) rfl (YR (pv 0) (YR (Xp ZaW rfl B.len ZaG (YR (pv 1) YV)) YV))) (fun _ _=>rfl)) Y3))
 (YW (ps_par3 rfl Ze0.nd rfl rfl rfl (by decide) (by decide) (by decide) rfl rfl rfl (YR (Xe Y5 (pv 2) (C8.pe_c b3 hr (by omega) rfl (YR (pv 0) (YR (Xp ZaW rfl B.len ZaG (YR (pv 2) YV)) YV))) (fun _ _=>rfl)) (YR (Xe Y5 (pv 2) (C8.pe_c b3 hr (by omega) rfl (YR (pv 0) (YR (Xp ZaW rfl B.len ZaG (YR (pv 2) YV)) YV))) (fun _ _=>rfl)) (YR (C8.pe_c b3 hr (by omega) rfl (YR (pv 0) (YR Y2 YV))) YV))) (by rfl))
 (YW (ps_if (Y6 op_lt (pv 6) Y2 (Xb _)) (YX (Y7 (Zi (YR Y3 (YR (pv 3) (YR (pv 4) YV)))))) YY)
 (YX (Y7 (pe_ifExp (Y6 op_lt (pv 6) Y2 (Xb _)) (Zi (YR Y3 (YR (pv 3) (YR (pv 5) (YR (pv 4) YV))))) (Zi (YR Y3 (YR (pv 3) YV)))))))))
theorem Zay:Y_ ["_law_h", "_law_modules", "_law_names_here", "_law_depth", "_law_block", "_law_other", "_law_kinds", "_law_kind", "_law_name_here"] ["_law_h", "_law_modules", "_law_names_here", "_law_depth"] (YU Z9):=⟨rfl,rfl,rfl,by decide +kernel,rfl,by decide +kernel,by decide +kernel⟩
theorem Zgb{n:Nat}{f:YD}{fd:YC}(F:FunD K "_law_statement" "_law_statement" (Y1 Z9) (Y0 Z9) (YU Z9) [] [] f fd) (B:Blt mg) (b3:C8.Cal P w K mg base 1 "_law_next" (Zb K) []) (b8:C8.Cal P w K mg base 7 "_law_expr" (ZO K 5) []) (b9:C8.Cal P w K mg base (2 * n + 11) "_law_rows" (Z1 K n) []) (bb:C8.Cal P w K mg base 2 "_law_integer" (ZL K) []) (bc:C8.Cal P w K mg base 2 "_law_load" (Zcu K) []):Xl P w K mg base CX0 ((2 * n + 11) + 1) f fd ["_law_h", "_law_modules", "_law_names_here", "_law_depth"] (Z0 K (n + 1)):=by
 refine F.ok Zay (fun vs H Q E h=>by obtain⟨_,_,_,_,_,_,_,rfl,_⟩:=h; rfl) (fun cdv A outer s H vs Q E hr h=>⟨ZbB K (Z1 K n),PSs.nox (?_),Zfl vs H Q E h⟩)
 exact(YW (ps_par rfl Zay.nd rfl rfl (by decide) rfl rfl (YR (C8.pe_c b3 hr (by omega) rfl (YR (pv 0) (YR Y2 YV))) (YR (Xe Y5 (pv 2) (C8.pe_c b3 hr (by omega) rfl (YR (pv 0) (YR (Xp ZaW rfl B.len ZaG (YR (pv 2) YV)) YV))) (fun _ _=>rfl)) YV)) (by rfl))
 (YW (ps_if (Y6 op_lt (pv 7) Y2 (Xb _)) (YX (Y7 (C8.pe_c bc hr (by omega) rfl (YR (pv 0) (YR (pv 1) (YR (pv 2) YV)))))) YY)
 (YW (ps_if (PW.pt (pw_or (Y6 op_lt (pv 7) Y2 (Xb _)) (pw_or1 (PW.pt (pw_and (Y6 op_gt (pv 7) Y2 (Xb _)) (pw_and1 (Y6 op_gt (pv 3) Y2 (Xb _)))))))) (YX (Y7 (Zi (YR Y3 (YR (pv 8) (YR (C8.pe_c b8 hr (by omega) rfl (YR (pv 0) (YR (pv 2) (YR Y2 YV)))) YV)))))) YY)
 (YW (ps_if (Y6 op_lt (pv 7) Y2 (Xb _)) (YX (Y7 (Xe Y5 (ZM (YR (Zi (YR Y3 (YR (pv 8) YV))) (YR (Zi (YR Y3 (YR (C8.pe_c b8 hr (by omega) rfl (YR (pv 0) (YR (pv 2) (YR Y2 YV)))) YV))) (YR (Zi (YR Y3 (YR (Zi (YR Y3 (YR (pv 8) YV))) YV))) YV)))) (pe_op op_sub (pv 7) Y2) (fun _ _=>rfl)))) YY)
 (YW (ps_if (Y6 (ZaC hr.units) (pv 7) Y2 (Xb _)) (YX (Y7 (Zi (YR Y3 (YR (pe_ifExp (Y6 op_gt (C8.pe_c b3 hr (by omega) rfl (YR (pv 0) (YR Y2 YV))) Y2 (Xb _)) (Zi (YR Y3 (YR (pv 8) YV))) (C8.pe_c b8 hr (by omega) rfl (YR (pv 0) (YR (pv 2) (YR Y2 YV))))) YV))))) YY)
 (YW (ps_if (Y6 (ZaC hr.units) (pv 7) Y2 (Xb _)) (YX (Y7 (pe_ifExp (Y6 (ZaC hr.units) (C8.pe_c b3 hr (by omega) rfl (YR (pv 0) (YR Y2 YV))) Y2 (Xb _)) (Zi (YR Y3 YV)) (Zi (YR Y3 (YR (C8.pe_c bb hr (by omega) rfl (YR (pv 0) YV)) YV)))))) YY)
 (YW (sN 4 Zay.nd (C8.pe_c b9 hr (by omega) rfl (YR (pv 0) (YR (pv 1) (YR (pv 2) (YR (pe_op Zaj (pv 3) Y2) (YR (pe_op op_sub Y2 (pv 3)) YV)))))))
 (YW (sN 5 Zay.nd (C8.pe_c b9 hr (by omega) rfl (YR (pv 0) (YR (pv 1) (YR (pv 2) (YR (pe_op Zaj (pv 3) Y2) (YR (pe_op op_sub Y2 (pv 3)) YV)))))))
 (YW (ps_if (Y6 (ZaC hr.units) (pv 7) Y2 (Xb _)) (YX (Y7 (Zi (YR Y3 (YR (pv 8) (YR (pv 4) YV)))))) YY)
 (YW (ps_if (Y6 (ZaC hr.units) (pv 7) Y2 (Xb _)) (YX (Y7 (Zi (YR Y3 (YR (C8.pe_c b8 hr (by omega) rfl (YR (pv 0) (YR (pv 2) (YR Y2 YV)))) (YR (pv 4) (YR (pv 5) YV))))))) YY)
 (YW (sN 6 Zay.nd (ZM (YR Y3 (YR Y3 (YR Y3 (YR Y3 (YR Y3 (YR Y3 (YR Y3 (YR Y3 YV))))))))))
 (YX (Y7 (Zi (YR Y3 (YR (Xe Y5 (pv 6) (C8.pe_c b3 hr (by omega) rfl (YR (pv 0) (YR Y2 YV))) (fun _ _=>rfl)) (YR (pv 4) (YR (pv 5) YV))))))))))))))))))
theorem Ze1:Y_ ["_law_h", "_law_modules", "_law_names_here", "_law_depth", "_law_most", "_law_k"] ["_law_h", "_law_modules", "_law_names_here", "_law_depth", "_law_most"] (YU Zbs):=⟨rfl,rfl,rfl,by decide +kernel,rfl,by decide +kernel,by decide +kernel⟩
theorem ZgT{n:Nat}{f:YD}{fd:YC}(F:FunD K "_law_rows" "_law_rows" (Y1 Zbs) (Y0 Zbs) (YU Zbs) [] [] f fd) (B:Blt mg) (b8:C8.Cal P w K mg base 1 "_law_next" (Zb K) []) (b3:C8.Cal P w K mg base (2 * n + 10) "_law_statement" (Z0 K n) []):Xl P w K mg base CX0 ((2 * n + 10) + 1) f fd ["_law_h", "_law_modules", "_law_names_here", "_law_depth", "_law_most"] (Z1 K n):=by
 refine F.ok Ze1 (fun vs H Q E h=>by obtain⟨_,_,_,_,_,_,_,_,rfl,_⟩:=h; rfl) (fun cdv A outer s H vs Q E hr h=>⟨Zd8 K (Z0 K n),PSs.nox (?_),ZhY vs H Q E h⟩)
 exact(YX (Y7 (pe_tupleOf rfl B.tuple (pe_lc (own:=[("_law_k",5)]) (g:=(Y4 5)) (tt:=tYes) rfl Ze1.nd (pi_range1 rfl B.range (YR (C8.pe_c b8 hr (by omega) rfl (YR (pv 0) (YR (pe_op Zaj (pv 4) Y2) YV))) YV)) (blkOk_by (N:=["_law_h", "_law_modules", "_law_names_here", "_law_depth", "_law_most", "_law_k"]) (sc:=YU Zbs) (by decide +kernel)) (fun _ _ _ _ _=>(gN 5 Ze1.nd)) (fun _ _ _ _ _=>pts_nil) (fun _ _ _ _ _=>(C8.pe_c b3 hr (by omega) rfl (YR (pv 0) (YR (pv 1) (YR (pv 2) (YR (pv 3) YV))))))))))
theorem ZaV:Y_ ["_law_h", "_law_modules", "_law_names_here", "_law_found", "_law_name_here", "_law_kind"] ["_law_h", "_law_modules", "_law_names_here"] (YU ZZ):=⟨rfl,rfl,rfl,by decide +kernel,rfl,by decide +kernel,by decide +kernel⟩
theorem ZfV{f:YD}{fd:YC}(F:FunD K "_law_first_rows" "_law_first_rows" (Y1 ZZ) (Y0 ZZ) (YU ZZ) [] [] f fd) (B:Blt mg) (b8:C8.Cal P w K mg base 17 "_law_rows" (Z1 K 3) []) (b3:C8.Cal P w K mg base 2 "_law_integer" (ZL K) []) (b9:C8.Cal P w K mg base 1 "_law_next" (Zb K) []):Xl P w K mg base CX0 (17 + 1) f fd ["_law_h", "_law_modules", "_law_names_here"] (Zan K):=by
 refine F.ok ZaV (fun vs H Q E h=>by obtain⟨_,_,_,_,_,_,rfl,_⟩:=h; rfl) (fun cdv A outer s H vs Q E hr h=>⟨Zbl K ,PSs.nox (?_),ZeT vs H Q E h⟩)
 exact(YW (sN 3 ZaV.nd (ZM YV))
 (YW (ps_for PassesOwn.never rfl (Zcy (pv 2)) (gN 4 ZaV.nd) (YW (sN 5 ZaV.nd (C8.pe_c b9 hr (by omega) rfl (YR (pv 0) (YR Y2 YV))))
 (YW (ps_if (Y6 (ZaC hr.units) (pv 5) Y2 (Xb _)) (YX (Xd (pe_bm PySem.F.plainAttrs_list PySem.F.slot_list_append PySem.F.type_list_append mt_append (pv 3) (YR (Zi (YR Y3 (YR (pv 4) (YR (C8.pe_c b3 hr (by omega) rfl (YR (pv 0) YV)) YV)))) YV)))) YY)
 (YX (ps_if (Y6 (ZaC hr.units) (pv 5) Y2 (Xb _)) (YX (Xd (pe_bm PySem.F.plainAttrs_list PySem.F.slot_list_append PySem.F.type_list_append mt_append (pv 3) (YR (Zi (YR Y3 (YR (pv 4) (YR (C8.pe_c b8 hr (by omega) rfl (YR (pv 0) (YR (pv 1) (YR (pv 2) (YR Y2 (YR Y2 YV)))))) YV)))) YV)))) YY)))))
 (YX (Y7 (pe_tupleOf rfl B.tuple (pv 3))))))
theorem ZbX:Y_ ["_law_h", "_law_most", "_law_found", "_law_module", "_law_modules", "_law_names_here"] ["_law_h", "_law_most"] (YU Zas):=⟨rfl,rfl,rfl,by decide +kernel,rfl,by decide +kernel,by decide +kernel⟩
theorem Zg1{f:YD}{fd:YC}(F:FunD K "_law_program" "_law_program" (Y1 Zas) (Y0 Zas) (YU Zas) [] [] f fd) (B:Blt mg) (b3:C8.Cal P w K mg base 18 "_law_first_rows" (Zan K) []) (b9:C8.Cal P w K mg base 17 "_law_rows" (Z1 K 3) []) (b8:C8.Cal P w K mg base 3 "_law_names" (Zbu K) []):Xl P w K mg base CX0 (18 + 1) f fd ["_law_h", "_law_most"] (Zap K):=by
 refine F.ok ZbX (fun vs H Q E h=>by obtain⟨_,_,_,rfl,_⟩:=h; rfl) (fun cdv A outer s H vs Q E hr h=>⟨Zck K ,PSs.nox (?_),ZfM vs H Q E h⟩)
 exact(YW (ps_par rfl ZbX.nd rfl rfl (by decide) rfl rfl (YR (C8.pe_c b8 hr (by omega) rfl (YR (pv 0) (YR Y2 YV))) (YR (C8.pe_c b8 hr (by omega) rfl (YR (pv 0) (YR Y2 YV))) YV)) (by rfl))
 (YW (sN 2 ZbX.nd Zk5)
 (YW (ps_for PassesOwn.never rfl (Zcy (pv 4)) (gN 3 ZbX.nd) (YX (ps_asg (pe_op Zaj (C8.pe_c b3 hr (by omega) rfl (YR (pv 0) (YR (pv 4) (YR (pv 5) YV)))) (C8.pe_c b9 hr (by omega) rfl (YR (pv 0) (YR (pv 4) (YR (pv 5) (YR Y2 (YR (pv 1) YV))))))) (pg_sub (pv 2) (pv 3) (ZcP hr.units)))))
 (YX (Y7 (Zi (YR (pv 4) (YR (pv 5) (YR (pv 2) YV)))))))))
theorem ZaR:Y_ ["_law_block", "_law_base", "_law_found", "_law_k", "_law_blocks", "_law_number", "_law_row", "_law_path"] ["_law_block", "_law_base"] (YU ZbP):=⟨rfl,rfl,rfl,by decide +kernel,rfl,by decide +kernel,by decide +kernel⟩
theorem ZjO{n:Nat}{f:YD}{fd:YC}(F:FunD K "_law_walk" "_law_walk" (Y1 ZbP) (Y0 ZbP) (YU ZbP) [] [] f fd) (B:Blt mg) (b3:C8.Cal P w K mg base (n + 1) "_law_walk" (ZI K n) []):Xl P w K mg base CX0 ((n + 1) + 1) f fd ["_law_block", "_law_base"] (ZI K (n + 1)):=by
 refine F.ok ZaR (fun vs H Q E h=>by obtain⟨_,_,_,_,rfl,_⟩:=h; rfl) (fun cdv A outer s H vs Q E hr h=>⟨Zd_ K (ZI K n),PSs.nox (?_),Zh0 vs H Q E h⟩)
 exact(YW (sN 2 ZaR.nd (ZM YV))
 (YW (ps_for PassesOwn.never rfl (pi_range1 rfl B.range (YR (Xp ZaW rfl B.len ZaG (YR (pv 0) YV)) YV)) (gN 3 ZaR.nd) (YW (ps_par rfl ZaR.nd rfl rfl (by decide) rfl rfl (YR (Xe Y5 (pv 0) (pv 3) (fun _ _=>rfl)) (YR (pe_op Zaj (pv 1) (Zi (YR (pv 3) YV))) YV)) (by rfl))
 (YW (Xd (pe_bm PySem.F.plainAttrs_list PySem.F.slot_list_append PySem.F.type_list_append mt_append (pv 2) (YR (Zi (YR (pv 7) (YR (pv 6) YV))) YV)))
 (YW (sN 4 ZaR.nd (pe_ifExp (Y6 (ZaC hr.units) (Xe Y5 (pv 6) Y2 (fun _ _=>rfl)) Y3 (Xb _)) (ZM (YR (Xe Y5 (pv 6) Y2 (fun _ _=>rfl)) YV)) (ZM YV)))
 (YW (ps_if (Y6 ZkU (Xe Y5 (pv 6) Y2 (fun _ _=>rfl)) (Zi (YR Y3 (YR Y3 YV))) rfl) (YX (sN 4 ZaR.nd (ZM (YR (Xe Y5 (pv 6) Y2 (fun _ _=>rfl)) (YR (Xe Y5 (pv 6) Y2 (fun _ _=>rfl)) YV))))) YY)
 (YX (ps_for PassesOwn.never rfl (pi_range1 rfl B.range (YR (Xp ZaW rfl B.len ZaG (YR (pv 4) YV)) YV)) (gN 5 ZaR.nd) (YX (sN 2 ZaR.nd (pe_op Zaj (pv 2) (C8.pe_c b3 hr (by omega) rfl (YR (Xe Y5 (pv 4) (pv 5) (fun _ _=>rfl)) (YR (pe_op Zaj (pv 7) (Zi (YR (pv 5) YV))) YV)))))))))))))
 (YX (Y7 (pv 2)))))
theorem ZbD:Y_ ["_law_program_here", "_law_due", "_law_names_here", "_law_each", "_law_walked", "_law_name_here", "_law_row"] ["_law_program_here", "_law_due"] (YU Zcg):=⟨rfl,rfl,rfl,by decide +kernel,rfl,by decide +kernel,by decide +kernel⟩
theorem Zl3{CP:YD}{f:YD}{fd:YC}(F:FunD K "_law_is" "_law_is" (Y1 Zcg) (Y0 Zcg) (YU Zcg) [] [] f fd) (B:Blt mg) (lg:ZqU P w K mg base 1 CP (Zad K CP)) (b3:C8.Cal P w K mg base 71 "_law_alike" (Zy K 70) []) (bb:MSl P w K mg base 3 CP "all_names" (Z3 K CP)) (og:ZnE P w K mg base 1 CP (Zp K CP) (Zl K CP)) (b8:C8.Cal P w K mg base 6 "_law_walk" (ZI K 5) []) (b9:MSl P w K mg base 12 CP "statements" (ZT K CP)) (bc:Zkb P w K mg base 12 CP):Xl P w K mg base CX0 (80 + 1) f fd ["_law_program_here", "_law_due"] (ZaQ K CP):=by
 refine F.ok ZbD (fun vs H Q E h=>by obtain⟨_,_,_,_,_,rfl,_⟩:=h; rfl) (fun cdv A outer s H vs Q E hr h=>⟨Zgj K CP,PSs.nox (?_),Zjp vs H Q E h⟩)
 exact(YW (sN 2 ZbD.nd (Xp (Zgf rfl) rfl B.sorted Zfe (YR (pv 1) YV)))
 (YW (ZlQ (own:=[("_law_row",6)]) (g:=(Y4 6)) (tt:=tYes) (fun _ _ h=>h) hr.depth rfl ZbD.nd rfl rfl (sw_true rfl rfl rfl (by decide +kernel)) (Zsf bc hr (by omega) (fun _ _ h=>h) rfl (pv 0)) (blkOk_by (N:=["_law_program_here", "_law_due", "_law_names_here", "_law_each", "_law_walked", "_law_name_here", "_law_row"]) (sc:=YU Zcg) (by decide +kernel)) (fun _=>by rfl) (fun _ _ _ _ _=>(gN 6 ZbD.nd)) (fun _ _ _ _ _=>pts_nil) (fun _ _ _ _ _=>(pv 6)))
 (YW (sN 4 ZbD.nd (ZM YV))
 (YW (ps_for PassesOwn.never rfl (Zcy (pv 2)) (gN 5 ZbD.nd) (YW (sN 4 ZbD.nd (pe_op Zaj (pv 4) (pe_lc (own:=[("_law_row",6)]) (g:=(Y4 6)) (tt:=tYes) rfl ZbD.nd (Zcy (C8.pe_c b8 hr (by omega) rfl (YR (Zco hr.units (pv 1) (pv 5) (fun _ _=>rfl)) (YR (Zi YV) YV)))) (blkOk_by (N:=["_law_program_here", "_law_due", "_law_names_here", "_law_each", "_law_walked", "_law_name_here", "_law_row"]) (sc:=YU Zcg) (by decide +kernel)) (fun _ _ _ _ _=>(gN 6 ZbD.nd)) (fun _ _ _ _ _=>pts_nil) (fun _ _ _ _ _=>(Zi (YR (pv 5) (YR (Xe Y5 (pv 6) Y2 (fun _ _=>rfl)) (YR (Xe Y5 (pv 6) Y2 (fun _ _=>rfl)) YV))))))))
 (YW (ps_if (pt_not (pt_val (C8.pe_c b3 hr (by omega) rfl (YR (og.ix hr (by omega) (pv 0) (pv 5)) (YR (Zco hr.units (pv 1) (pv 5) (fun _ _=>rfl)) YV))))) (YX (Y7 pe_bl)) YY)
 (YW (ps_if (pt_not (pt_val (C8.pe_c b3 hr (by omega) rfl (YR (Zla b9 hr (by omega) (pv 0) (YR (pv 5) YV)) (YR (C8.pe_c b8 hr (by omega) rfl (YR (Zco hr.units (pv 1) (pv 5) (fun _ _=>rfl)) (YR (Zi YV) YV))) YV))))) (YX (Y7 pe_bl)) YY)
 (YX (ps_if (Y6 op_notBl (pe_cmpR (og.cin hr (by omega)) (pv 5) (pv 0) rfl) pe_bl (Xb _)) (YX (Y7 pe_bl)) YY))))))
 (YW (ps_if (PW.pt (pw_or (pt_not (pt_val (C8.pe_c b3 hr (by omega) rfl (YR (ZpJ bb hr (by omega) (pv 0)) (YR (pv 2) YV))))) (pw_or1 (pt_not (pt_val (C8.pe_c b3 hr (by omega) rfl (YR (pv 3) (YR (pv 4) YV)))))))) (YX (Y7 pe_bl)) YY)
 (YX (Y7 (C8.pe_c b3 hr (by omega) rfl (YR (Xp (lg.cb hr (by omega)) rfl B.len ZaG (YR (pv 0) YV)) (YR (Xp ZaW rfl B.len ZaG (YR (pv 2) YV)) YV))))))))))
theorem Zcn:Y_ ["_law_h", "_law_found", "_law_k", "_law_left", "_law_turned_here", "_law_name_here"] ["_law_h", "_law_found"] (YU ZaJ):=⟨rfl,rfl,rfl,by decide +kernel,rfl,by decide +kernel,by decide +kernel⟩
theorem Zid{f:YD}{fd:YC}(F:FunD K "_law_turned" "_law_turned" (Y1 ZaJ) (Y0 ZaJ) (YU ZaJ) [] [] f fd) (B:Blt mg) (b3:C8.Cal P w K mg base 1 "_law_next" (Zb K) []):Xl P w K mg base CX0 (2 + 1) f fd ["_law_h", "_law_found"] (ZbC K):=by
 refine F.ok Zcn (fun vs H Q E h=>by obtain⟨_,_,_,_,rfl,_⟩:=h; rfl) (fun cdv A outer s H vs Q E hr h=>⟨ZcE K ,PSs.nox (?_),ZgN vs H Q E h⟩)
 exact(YW (ps_par rfl Zcn.nd rfl rfl (by decide) rfl rfl (YR (pe_callTy (Zh1 rfl) rfl B.list Zc1 (YR (pv 1) YV)) (YR Zk5 YV)) (by rfl))
 (YW (ps_for PassesOwn.never rfl (pi_range1 rfl B.range (YR (Xp ZaW rfl B.len ZaG (YR (pv 3) YV)) YV)) (gN 2 Zcn.nd) (YW (sN 5 Zcn.nd (pe_bm PySem.F.plainAttrs_list PySem.F.slot_list_pop PySem.F.type_list_pop mt_popAt (pv 3) (YR (C8.pe_c b3 hr (by omega) rfl (YR (pv 0) (YR (Xp ZaW rfl B.len ZaG (YR (pv 3) YV)) YV))) YV)))
 (YX (ps_asg (Zco hr.units (pv 1) (pv 5) (fun _ _=>rfl)) (pg_sub (pv 4) (pv 5) (ZcP hr.units))))))
 (YX (Y7 (pv 4)))))
theorem ZbY:Y_ ["_law_program_here", "_law_names_here", "_law_told", "error"] ["_law_program_here", "_law_names_here"] (YU Z4):=⟨rfl,rfl,rfl,by decide +kernel,rfl,by decide +kernel,by decide +kernel⟩
theorem Zg2{CP CU:YD}(xx:PySem.W.exmOne K (.ref CU) (.ref CU)=some true){f:YD}{fd:YC}(F:FunD K "_law_unknown" "_law_unknown" (Y1 Z4) (Y0 Z4) (YU Z4) [] [] f fd) (B:Blt mg) (bb:Zp3 P w K mg base 16 CP "without" (Zbv K CP CU)) (b9:mg "UnknownModule" = some (.ref CU)) (b8:XfC K CU) (b3:PySem.W.findIn K (.ref CU) "module" = some none):Xl P w K mg base CX0 (17 + 1) f fd ["_law_program_here", "_law_names_here"] (Zag K CP):=by
 refine F.ok ZbY (fun vs H Q E h=>by obtain⟨_,_,_,_,_,rfl,_⟩:=h; rfl) (fun cdv A outer s H vs Q E hr h=>⟨Zcl K CP CU (fun _ _ _ _=>False),?_,Zf9 xx vs H Q E h⟩)
 have tk:L2N.Takes (cxOf CX0 P w K mg base ["_law_program_here", "_law_names_here", "_law_told", "error"] "_law_unknown" (YU Z4) f cdv A outer s H E) (fun _ _ _ _=>False):=takes0
 have tc:Zk0 (cxOf CX0 P w K mg base ["_law_program_here", "_law_names_here", "_law_told", "error"] "_law_unknown" (YU Z4) f cdv A outer s H E):=ZqN
 exact(YW (sN 2 ZbY.nd pe_non)
 (YW (Zk1 (tb:=fun W:WX=>(Xi (Xc (tOp (ZbH K) (tCB (rLen K) (YT (YS 1) YZ)) (tC (.int 1)))) (Xn (ZcB CP (Zbv K CP CU) W (YS 0) (YT (tOp (rIx K) (YS 1) (tC (.int 0))) YZ))) (Xn (ZcB CP (Zbv K CP CU) W (YS 0) (YT (tOp (rIx K) (YS 1) (tC (.int 0))) (YT (tOp (rIx K) (YS 1) (tC (.int 1))) YZ)))))) tc (fun W pn xe tk po=>(YX (ps_if (Y6 (ZaC hr.units) (Xp ZaW rfl B.len ZaG (YR (pv 1) YV)) Y2 (Xb _)) (YX (Xd (Zln bb tk hr (by omega) (pv 0) (YR (Xe Y5 (pv 1) Y2 (fun _ _=>rfl)) YV)))) (YX (Xd (Zln bb tk hr (by omega) (pv 0) (YR (Xe Y5 (pv 1) Y2 (fun _ _=>rfl)) (YR (Xe Y5 (pv 1) Y2 (fun _ _=>rfl)) YV)))))))) (ZpC tc ZbY.nd rfl rfl ⟨rfl,rfl,.inl b9⟩ (fun a T oe oT cls d pins F=>(YX (sN 2 ZbY.nd (Zm9 b8 b3 F (pv 3))))) (Zm4 tc tk)))
 (YX (Y7 (pv 2)))))
theorem ZbZ:Y_ ["_law_program_here", "_law_name_here", "_law_told", "_law_way", "error"] ["_law_program_here", "_law_name_here"] (YU Z5):=⟨rfl,rfl,rfl,by decide +kernel,rfl,by decide +kernel,by decide +kernel⟩
theorem Zg3{CP CU:YD}(xx:PySem.W.exmOne K (.ref CU) (.ref CU)=some true){f:YD}{fd:YC}(F:FunD K "_law_missing" "_law_missing" (Y1 Z5) (Y0 Z5) (YU Z5) [] [] f fd) (B:Blt mg) (ixn:IxN P w K mg base 3 CP (ZA K CP CU)) (bb:Zp3 P w K mg base 12 CP "statements" (ZE K CP CU)) (b9:mg "UnknownModule" = some (.ref CU)) (b8:XfC K CU) (b3:PySem.W.findIn K (.ref CU) "module" = some none):Xl P w K mg base CX0 (13 + 1) f fd ["_law_program_here", "_law_name_here"] (Zbj K CP):=by
 refine F.ok ZbZ (fun vs H Q E h=>by obtain⟨_,_,_,_,rfl,_⟩:=h; rfl) (fun cdv A outer s H vs Q E hr h=>⟨Zcm K CP CU (fun _ _ _ _=>False),?_,Zf_ xx vs H Q E h⟩)
 have tk:L2N.Takes (cxOf CX0 P w K mg base ["_law_program_here", "_law_name_here", "_law_told", "_law_way", "error"] "_law_missing" (YU Z5) f cdv A outer s H E) (fun _ _ _ _=>False):=takes0
 have tc:Zk0 (cxOf CX0 P w K mg base ["_law_program_here", "_law_name_here", "_law_told", "_law_way", "error"] "_law_missing" (YU Z5) f cdv A outer s H E):=ZqN
 exact(YW (sN 2 ZbZ.nd (ZM YV))
 (YW (ps_for (passes_of rfl) rfl (pi_range1 rfl B.range (YR Y2 YV)) (gN 3 ZbZ.nd) (YX (Zk1 (tb:=fun W:WX=>(Xi (Xc (tOp (ZbH K) (YS 3) (tC (.int 0)))) (Xn (tBM K "list" rAppend (YS 2) (YT (ZqY CP (ZA K CP CU) W (YS 0) (YS 1)) YZ))) (Xn (tBM K "list" rAppend (YS 2) (YT (ZcB CP (ZE K CP CU) W (YS 0) (YT (YS 1) YZ)) YZ))))) tc (fun W pn xe tk po=>(YX (ps_if (Y6 (ZaC hr.units) (pv 3) Y2 (Xb _)) (YX (Xd (pe_bm PySem.F.plainAttrs_list PySem.F.slot_list_append PySem.F.type_list_append mt_append (pv 2) (YR (Zqp ixn tk hr (by omega) (pv 0) (pv 1)) YV)))) (YX (Xd (pe_bm PySem.F.plainAttrs_list PySem.F.slot_list_append PySem.F.type_list_append mt_append (pv 2) (YR (Zln bb tk hr (by omega) (pv 0) (YR (pv 1) YV)) YV))))))) (ZpC tc ZbZ.nd rfl rfl ⟨rfl,rfl,.inl b9⟩ (fun a T oe oT cls d pins F=>(YX (Xd (pe_bm PySem.F.plainAttrs_list PySem.F.slot_list_append PySem.F.type_list_append mt_append (pv 2) (YR (Zm9 b8 b3 F (pv 4)) YV))))) (Zm4 tc tk)))))
 (YX (Y7 (pe_cmpR (ZaC hr.units) (pv 2) (ZM (YR (pv 1) (YR (pv 1) YV))) (Xb _))))))
theorem Zcb:Y_ ["_law_script", "_law_h", "_law_turn", "_law_name_here", "_law_given", "_law_union", "_law_each", "_law_unknown_here", "_law_modules", "_law_names_here", "_law_found", "_law_others", "_law_more", "_law_second", "_law_program_here", "_law_other", "_law_added", "_law_less"] ["_law_script"] (YU Zir):=⟨rfl,rfl,rfl,by decide +kernel,rfl,by decide +kernel,by decide +kernel⟩
theorem ZqD{CP CU:YD}(nf:PySem.W.notFirst K CP (.ref CP)=true){f:YD}{fd:YC}(F:FunD K "law" "law" (Y1 Zir) (Y0 Zir) (YU Zir) [] [] f fd) (B:Blt mg) (b8:C8.Cal P w K mg base 81 "_law_is" (ZaQ K CP) []) (og:ZnE P w K mg base 1 CP (Zp K CP) (Zl K CP)) (bd:C8.Cal P w K mg base 14 "_law_missing" (Zbj K CP) []) (b3:C8.Cal P w K mg base 18 "_law_unknown" (Zag K CP) []) (bh:MSl P w K mg base 16 CP "with_module" (ZD K CP)) (eqo:EqO P w K mg base 1 CP (Zz K CP)) (be:MSl P w K mg base 16 CP "without" (ZbU K CP)) (oro:OrO P w K mg base 16 CP (Zao K CP)) (bb:C8.Mak P w K mg base 14 "Program" CP (Zf K CP) []) (bf:C8.Cal P w K mg base 3 "_law_turned" (ZbC K) []) (bc:C8.Cal P w K mg base 1 "_law_next" (Zb K) []) (b9:C8.Cal P w K mg base 19 "_law_program" (Zap K) []) (bg:C8.Cal P w K mg base 1 "_law_mix" (ZcT K) []):Xl P w K mg base CX0 (215 + 1) f fd ["_law_script"] (Zke K):=by
 refine F.ok Zcb (fun vs H Q E h=>by obtain⟨_,_,rfl,_⟩:=h; rfl) (fun cdv A outer s H vs Q E hr h=>⟨ZmU K CP CU,PSs.nox (?_),ZmW nf vs H Q E h⟩)
 exact(YW (sN 1 Zcb.nd (C8.pe_c bg hr (by omega) rfl (YR (pv 0) (YR Y2 YV))))
 (YW (ps_for PassesOwn.never rfl (pi_range1 rfl B.range (YR Y2 YV)) (gN 2 Zcb.nd) (YW (ps_asg (C8.pe_c b9 hr (by omega) rfl (YR (pv 1) (YR Y2 YV))) (pg_tup rfl (pgs_cons (gN 8 Zcb.nd) (pgs_cons (gN 9 Zcb.nd) (pgs_cons (gN 10 Zcb.nd) pgs_nil)))))
 (YW (ps_asg (C8.pe_c b9 hr (by omega) rfl (YR (pv 1) (YR Y2 YV))) (pg_tup rfl (pgs_cons (gN 11 Zcb.nd) (pgs_cons (gN 12 Zcb.nd) (pgs_cons (gN 13 Zcb.nd) pgs_nil)))))
 (YW (sN 3 Zcb.nd (Xe Y5 (pv 8) (C8.pe_c bc hr (by omega) rfl (YR (pv 1) (YR (Xp ZaW rfl B.len ZaG (YR (pv 8) YV)) YV))) (fun _ _=>rfl)))
 (YW (ps_asg (Xe Y5 (ZM (YR (Zco hr.units (pv 10) (pv 3) (fun _ _=>rfl)) (YR (Zi (YR (Zi (YR Y3 YV)) YV)) YV))) (C8.pe_c bc hr (by omega) rfl (YR (pv 1) (YR Y2 YV))) (fun _ _=>rfl)) (pg_sub (pv 13) (pv 3) (ZcP hr.units)))
 (YW (sN 4 Zcb.nd (C8.pe_c bf hr (by omega) rfl (YR (pv 1) (YR (pv 10) YV))))
 (YW (ps_par rfl Zcb.nd rfl rfl (by decide) rfl rfl (YR (C8.pe_mk bb hr (by omega) rfl (YR (pv 4) YV)) (YR (C8.pe_mk bb hr (by omega) rfl (YR (pe_callTy (ZdO rfl) rfl B.dict ZeL (YR (pv 13) YV)) YV)) YV)) (by rfl))
 (YW (ps_asg (Zi YV) (pg_sub (pv 4) Y3 (ZcP hr.units)))
 (YW (ps_if (PW.pt (pw_or (pt_not (pt_val (C8.pe_c b8 hr (by omega) rfl (YR (pv 14) (YR (pv 10) YV))))) (pw_or (pt_not (pt_val (C8.pe_c b8 hr (by omega) rfl (YR (pv 15) (YR (pv 13) YV))))) (pw_or1 (pt_not (Y6 (eqo.op hr (by omega)) (pv 14) (C8.pe_mk bb hr (by omega) rfl (YR (pe_callTy (ZdO rfl) rfl B.dict ZeL (YR (pv 10) YV)) YV)) (Xb _))))))) (YX (Y7 pe_bl)) YY)
 (YW (sN 5 Zcb.nd (pe_callTy (ZdO rfl) rfl B.dict ZeL (YR (pv 10) YV)))
 (YW (ps_lock (ps_for PassesOwn.never rfl (pi_keys (pv 13)) (gN 6 Zcb.nd) (YX (ps_asg (Zco hr.units (pv 13) (pv 6) (fun _ _=>rfl)) (pg_sub (pv 5) (pv 6) (ZcP hr.units))))))
 (YW (ps_if (PW.pt (pw_or (pt_not (pt_val (C8.pe_c b8 hr (by omega) rfl (YR (pe_op (oro.op hr (by omega)) (pv 14) (pv 15)) (YR (pv 5) YV))))) (pw_or1 (Y6 (Zg4 hr.units) (pe_cmpR (eqo.op hr (by omega)) (pv 14) (pv 15) (Xb _)) (pe_cmpR (ZlD (ZqB hr)) (pv 10) (pv 13) (Xb _)) (Xb _))))) (YX (Y7 pe_bl)) YY)
 (YW (ps_par rfl Zcb.nd rfl rfl (by decide) rfl rfl (YR (pe_callTy (ZdO rfl) rfl B.dict ZeL (YR (pv 10) YV)) (YR (pe_callTy (ZdO rfl) rfl B.dict ZeL (YR (pv 10) YV)) YV)) (by rfl))
 (YW (ps_asg (Zi (YR (Zi (YR Y3 (YR Y3 YV))) YV)) (pg_sub (pv 16) (Xe Y5 (pv 11) Y2 (fun _ _=>rfl)) (ZcP hr.units)))
 (YW (Xd (pe_dpop1 (pv 17) (pv 3) ⟨by rfl,by rfl,by rfl,by rfl⟩))
 (YW (ps_if (pt_not (pt_val (C8.pe_c b8 hr (by omega) rfl (YR (Zla bh hr (by omega) (pv 14) (YR (Xe Y5 (pv 11) Y2 (fun _ _=>rfl)) (YR (Zi (YR (Zi (YR Y3 (YR Y3 YV))) YV)) YV))) (YR (pv 16) YV))))) (YX (Y7 pe_bl)) YY)
 (YW (ps_if (pt_not (pt_val (C8.pe_c b8 hr (by omega) rfl (YR (Zla be hr (by omega) (pv 14) (YR (pv 3) YV)) (YR (pv 17) YV))))) (YX (Y7 pe_bl)) YY)
 (YW (ps_setLc (own:=[("_law_each",6)]) (g:=(Y4 6)) (tt:=(tB (tOp rNotInD (YS 6) (YS 10)))) rfl Zcb.nd rfl rfl (sw_true rfl rfl rfl (by decide +kernel)) (Zcy (ZM (YR Y3 (YR Y3 (YR Y3 (YR Y3 (YR Y3 (YR Y3 YV)))))))) (blkOk_by (N:=["_law_script", "_law_h", "_law_turn", "_law_name_here", "_law_given", "_law_union", "_law_each", "_law_unknown_here", "_law_modules", "_law_names_here", "_law_found", "_law_others", "_law_more", "_law_second", "_law_program_here", "_law_other", "_law_added", "_law_less"]) (sc:=YU Zir) (by decide +kernel)) (fun _ _ _ _ _=>(gN 6 Zcb.nd)) (fun _ _ _ _ _=>(pts_one (pt_cmp (Zc2 hr.units (pv 6) (pv 10))))) (fun _ _ _ _ _=>(pv 6)))
 (YW (ps_if (Y6 ZkU pe_bl (ZM (YR (pe_cmpR (eqo.op hr (by omega)) (pv 14) (Zla be hr (by omega) (pv 14) (YR (pv 3) YV)) (Xb _)) (YR (pe_cmpR (eqo.op hr (by omega)) (pv 14) (Zla bh hr (by omega) (pv 14) (YR (Xe Y5 (pv 7) Y2 (fun _ _=>rfl)) (YR (Zi YV) YV))) (Xb _)) YV))) rfl) (YX (Y7 pe_bl)) YY)
 (YW (ps_if (PW.pt (pw_or (Y6 (Zg4 hr.units) (C8.pe_c b3 hr (by omega) rfl (YR (pv 14) (YR (ZM (YR (pv 3) (YR (Xe Y5 (pv 7) Y2 (fun _ _=>rfl)) YV))) YV))) (Xe Y5 (pv 7) Y2 (fun _ _=>rfl)) (Xb _)) (pw_or1 (Y6 op_notN1 (C8.pe_c b3 hr (by omega) rfl (YR (pv 14) (YR (ZM (YR (pv 3) YV)) YV))) pe_non (Xb _))))) (YX (Y7 pe_bl)) YY)
 (YW (ps_if (PW.pt (pw_or (Y6 (Zg4 hr.units) (C8.pe_c b3 hr (by omega) rfl (YR (pv 14) (YR (ZM (YR (Xe Y5 (pv 7) Y2 (fun _ _=>rfl)) (YR (Xe Y5 (pv 7) Y2 (fun _ _=>rfl)) YV))) YV))) (Xe Y5 (pv 7) Y2 (fun _ _=>rfl)) (Xb _)) (pw_or1 (pt_not (pt_val (C8.pe_c bd hr (by omega) rfl (YR (pv 14) (YR (Xe Y5 (pv 7) Y2 (fun _ _=>rfl)) YV)))))))) (YX (Y7 pe_bl)) YY)
 (YX (ps_if (PW.pt (pw_or (Y6 (og.cin hr (by omega)) (Xe Y5 (pv 7) Y2 (fun _ _=>rfl)) (pv 14) rfl) (pw_or1 (pt_not (pt_val (C8.pe_c b8 hr (by omega) rfl (YR (pv 14) (YR (pv 10) YV)))))))) (YX (Y7 pe_bl)) YY)))))))))))))))))))))))
 (YX (Y7 pe_bl))))
end
end M
namespace M
open PySem PySem.Spec PyProof.Rows L2 L2H SlX
section
variable {P:YE} {w:YF} {K:YA} {mg:Str→Option YG} {base:Heap} {k k':Nat} {C f:YD} {fd:YC} {ps:List Str} {m x:Str} {sp:Sp}
theorem ZsA(h:Mk K C f)(hm:mg x=some (.ref C))(F:Xl P w K mg base CX0 k f fd ps sp)(b:Binds K fd ps []):C8.Mak P w K mg base k x C sp []:=⟨⟨f,fd,ps,[],h,F,hm,b,.nil⟩⟩
end
theorem ZqE{K:YA}:∀ vs H Q E,¬ Zg K 0 vs H Q E:=by
 rintro vs H Q E ⟨v,e,ops,_,_,_,h,h3,_⟩
 omega
theorem ZsB{K:YA}:∀ vs H Q E,¬ Zk K 0 vs H Q E:=by
 rintro vs H Q E ⟨v,bv,b,base,_,_,_,h,_⟩
 exact absurd h (Nat.not_lt_zero _)
theorem ZqF{K:YA}:∀ vs H Q E,¬ ZO K 0 vs H Q E:=by
 rintro vs H Q E ⟨h,c,nl,names,d,_,_,_,h0,h1,_⟩
 omega
theorem ZqG{K:YA}:∀ vs H Q E,¬ Z0 K 0 vs H Q E:=by
 rintro vs H Q E ⟨h,c,ml,nl,ms,ns,d,_,_,h0,h1,_⟩
 omega
theorem ZqH{K:YA}:∀ vs H Q E,¬ Zy K 0 vs H Q E:=by
 rintro vs H Q E ⟨x,y,_,h,_⟩
 exact h
theorem ZqI{K:YA}:∀ vs H Q E,¬ ZI K 0 vs H Q E:=by
 rintro vs H Q E ⟨v,bv,b,base,_,_,_,h,_⟩
 exact absurd h (Nat.not_lt_zero _)
theorem facts{w:YF}{K:YA}{h:Heap}{mg:Str→Option YG}{f:YD}(X:K.In h)(G:h.Ns mainGlobals mg)(hfa:mg ("law" : Str)=some (.ref f)) (c:Zlc fa fn ts su pr ex w K) :
  ∃ fd:YC,(∀ (s:YH) (v:YG),BindsTo s fd ⟨[v],[]⟩ [("_law_script",v)])∧∀ base:Heap,K.In base→base.Ns mainGlobals mg→Xl PP w K mg base CX0 216 f fd ["_law_script"] (Zke K):=by
 obtain⟨fd_is_integer,F_is_integer⟩:=c.t.d.def_ 0 (d:=ZfX) rfl
 have cH:=He.glo_ok X G (c.t.d.fact 0 (f:=.glo "is_integer") rfl)
 have cP:Binds K fd_is_integer ["value"] []:=F_is_integer.bindsN fun _ _ _ _ _ _ us hl=>match us,hl with | [_],_=>rfl
 obtain⟨fd_is_name,F_is_name⟩:=c.t.d.def_ 1 (d:=Zis) rfl
 have dM:=He.glo_ok X G (c.t.d.fact 1 (f:=.glo "is_name") rfl)
 have dE:Binds K fd_is_name ["text"] []:=F_is_name.bindsN fun _ _ _ _ _ _ us hl=>match us,hl with | [_],_=>rfl
 obtain⟨fd_blocks_of,F_blocks_of⟩:=c.t.d.def_ 2 (d:=Zgq) rfl
 have cU:=He.glo_ok X G (c.t.d.fact 2 (f:=.glo "blocks_of") rfl)
 have cV:Binds K fd_blocks_of ["statement"] []:=F_blocks_of.bindsN fun _ _ _ _ _ _ us hl=>match us,hl with | [_],_=>rfl
 obtain⟨fd_names_of,F_names_of⟩:=c.t.d.def_ 3 (d:=Zg9) rfl
 have df:=He.glo_ok X G (c.t.d.fact 3 (f:=.glo "names_of") rfl)
 have d8:Binds K fd_names_of ["statement"] []:=F_names_of.bindsN fun _ _ _ _ _ _ us hl=>match us,hl with | [_],_=>rfl
 obtain⟨fd_expressions_of,F_expressions_of⟩:=c.t.d.def_ 4 (d:=Zdc) rfl
 have bQ:=He.glo_ok X G (c.t.d.fact 4 (f:=.glo "expressions_of") rfl)
 have bU:Binds K fd_expressions_of ["statement"] []:=F_expressions_of.bindsN fun _ _ _ _ _ _ us hl=>match us,hl with | [_],_=>rfl
 obtain⟨fd_statements_in,F_statements_in⟩:=c.t.d.def_ 5 (d:=Zdu) rfl
 have bA:=He.glo_ok X G (c.t.d.fact 5 (f:=.glo "statements_in") rfl)
 have bB:Binds K fd_statements_in ["block", "base"] []:=F_statements_in.bindsN fun _ _ _ _ _ _ us hl=>match us,hl with | [_,_],_=>rfl
 obtain⟨fd_depth_of,F_depth_of⟩:=c.t.d.def_ 6 (d:=Zg_) rfl
 have dg:=He.glo_ok X G (c.t.d.fact 6 (f:=.glo "depth_of") rfl)
 have dw:Binds K fd_depth_of ["path"] []:=F_depth_of.bindsN fun _ _ _ _ _ _ us hl=>match us,hl with | [_],_=>rfl
 obtain⟨fd_is_valid_expression,F_is_valid_expression⟩:=c.t.d.def_ 7 (d:=Zb1) rfl
 have be:=He.glo_ok X G (c.t.d.fact 7 (f:=.glo "is_valid_expression") rfl)
 have bc:Binds K fd_is_valid_expression ["expr", "operators"] []:=F_is_valid_expression.bindsN fun _ _ _ _ _ _ us hl=>match us,hl with | [_,_],_=>rfl
 obtain⟨fd_is_valid_statement,F_is_valid_statement⟩:=c.t.d.def_ 8 (d:=Zcc) rfl
 have bE:=He.glo_ok X G (c.t.d.fact 8 (f:=.glo "is_valid_statement") rfl)
 have bF:Binds K fd_is_valid_statement ["path", "statement"] []:=F_is_valid_statement.bindsN fun _ _ _ _ _ _ us hl=>match us,hl with | [_,_],_=>rfl
 obtain⟨fd_first_fault,F_first_fault⟩:=c.t.d.def_ 9 (d:=Ze9) rfl
 have cv:=He.glo_ok X G (c.t.d.fact 9 (f:=.glo "first_fault") rfl)
 have cy:Binds K fd_first_fault ["index", "name", "block"] []:=F_first_fault.bindsN fun _ _ _ _ _ _ us hl=>match us,hl with | [_,_,_],_=>rfl
 obtain⟨fd_law_mix,F_law_mix⟩:=c.t.d.def_ 10 (d:=Zit) rfl
 have dH:=He.glo_ok X G (c.t.d.fact 10 (f:=.glo "_law_mix") rfl)
 have dJ:Binds K fd_law_mix ["_law_script", "_law_seed"] []:=F_law_mix.bindsN fun _ _ _ _ _ _ us hl=>match us,hl with | [_,_],_=>rfl
 obtain⟨fd_law_next,F_law_next⟩:=c.t.d.def_ 11 (d:=Zha) rfl
 have dq:=He.glo_ok X G (c.t.d.fact 11 (f:=.glo "_law_next") rfl)
 have dB:Binds K fd_law_next ["_law_h", "_law_cap"] []:=F_law_next.bindsN fun _ _ _ _ _ _ us hl=>match us,hl with | [_,_],_=>rfl
 obtain⟨fd_law_alike,F_law_alike⟩:=c.t.d.def_ 12 (d:=Zgr) rfl
 have bY:=He.glo_ok X G (c.t.d.fact 12 (f:=.glo "_law_alike") rfl)
 have bX:Binds K fd_law_alike ["_law_found", "_law_due"] []:=F_law_alike.bindsN fun _ _ _ _ _ _ us hl=>match us,hl with | [_,_],_=>rfl
 obtain⟨fd_law_name,F_law_name⟩:=c.t.d.def_ 13 (d:=Zhb) rfl
 have cZ:=He.glo_ok X G (c.t.d.fact 13 (f:=.glo "_law_name") rfl)
 have d9:Binds K fd_law_name ["_law_h"] []:=F_law_name.bindsN fun _ _ _ _ _ _ us hl=>match us,hl with | [_],_=>rfl
 obtain⟨fd_law_names,F_law_names⟩:=c.t.d.def_ 14 (d:=Zgs) rfl
 have cX:=He.glo_ok X G (c.t.d.fact 14 (f:=.glo "_law_names") rfl)
 have cY:Binds K fd_law_names ["_law_h", "_law_many"] []:=F_law_names.bindsN fun _ _ _ _ _ _ us hl=>match us,hl with | [_,_],_=>rfl
 obtain⟨fd_law_integer,F_law_integer⟩:=c.t.d.def_ 15 (d:=Ze_) rfl
 have cD:=He.glo_ok X G (c.t.d.fact 15 (f:=.glo "_law_integer") rfl)
 have cz:Binds K fd_law_integer ["_law_h"] []:=F_law_integer.bindsN fun _ _ _ _ _ _ us hl=>match us,hl with | [_],_=>rfl
 obtain⟨fd_law_expr,F_law_expr⟩:=c.t.d.def_ 16 (d:=Zhc) rfl
 have ca:=He.glo_ok X G (c.t.d.fact 16 (f:=.glo "_law_expr") rfl)
 have cn:Binds K fd_law_expr ["_law_h", "_law_names_here", "_law_depth"] []:=F_law_expr.bindsN fun _ _ _ _ _ _ us hl=>match us,hl with | [_,_,_],_=>rfl
 obtain⟨fd_law_load,F_law_load⟩:=c.t.d.def_ 17 (d:=Zhd) rfl
 have du:=He.glo_ok X G (c.t.d.fact 17 (f:=.glo "_law_load") rfl)
 have dz:Binds K fd_law_load ["_law_h", "_law_modules", "_law_names_here"] []:=F_law_load.bindsN fun _ _ _ _ _ _ us hl=>match us,hl with | [_,_,_],_=>rfl
 obtain⟨fd_law_statement,F_law_statement⟩:=c.t.d.def_ 18 (d:=Zdv) rfl
 have bz:=He.glo_ok X G (c.t.d.fact 18 (f:=.glo "_law_statement") rfl)
 have bx:Binds K fd_law_statement ["_law_h", "_law_modules", "_law_names_here", "_law_depth"] []:=F_law_statement.bindsN fun _ _ _ _ _ _ us hl=>match us,hl with | [_,_,_,_],_=>rfl
 obtain⟨fd_law_rows,F_law_rows⟩:=c.t.d.def_ 19 (d:=Zhe) rfl
 have cg:=He.glo_ok X G (c.t.d.fact 19 (f:=.glo "_law_rows") rfl)
 have bZ:Binds K fd_law_rows ["_law_h", "_law_modules", "_law_names_here", "_law_depth", "_law_most"] []:=F_law_rows.bindsN fun _ _ _ _ _ _ us hl=>match us,hl with | [_,_,_,_,_],_=>rfl
 obtain⟨fd_law_first_rows,F_law_first_rows⟩:=c.t.d.def_ 20 (d:=Zdd) rfl
 have bV:=He.glo_ok X G (c.t.d.fact 20 (f:=.glo "_law_first_rows") rfl)
 have bS:Binds K fd_law_first_rows ["_law_h", "_law_modules", "_law_names_here"] []:=F_law_first_rows.bindsN fun _ _ _ _ _ _ us hl=>match us,hl with | [_,_,_],_=>rfl
 obtain⟨fd_law_program,F_law_program⟩:=c.t.d.def_ 21 (d:=Zfa) rfl
 have cw:=He.glo_ok X G (c.t.d.fact 21 (f:=.glo "_law_program") rfl)
 have cA:Binds K fd_law_program ["_law_h", "_law_most"] []:=F_law_program.bindsN fun _ _ _ _ _ _ us hl=>match us,hl with | [_,_],_=>rfl
 obtain⟨fd_law_walk,F_law_walk⟩:=c.t.d.def_ 22 (d:=Zhf) rfl
 have cq:=He.glo_ok X G (c.t.d.fact 22 (f:=.glo "_law_walk") rfl)
 have cf:Binds K fd_law_walk ["_law_block", "_law_base"] []:=F_law_walk.bindsN fun _ _ _ _ _ _ us hl=>match us,hl with | [_,_],_=>rfl
 obtain⟨fd_law_is,F_law_is⟩:=c.t.d.def_ 23 (d:=ZjX) rfl
 have dQ:=He.glo_ok X G (c.t.d.fact 23 (f:=.glo "_law_is") rfl)
 have dO:Binds K fd_law_is ["_law_program_here", "_law_due"] []:=F_law_is.bindsN fun _ _ _ _ _ _ us hl=>match us,hl with | [_,_],_=>rfl
 obtain⟨fd_law_turned,F_law_turned⟩:=c.t.d.def_ 24 (d:=ZfY) rfl
 have cM:=He.glo_ok X G (c.t.d.fact 24 (f:=.glo "_law_turned") rfl)
 have cJ:Binds K fd_law_turned ["_law_h", "_law_found"] []:=F_law_turned.bindsN fun _ _ _ _ _ _ us hl=>match us,hl with | [_,_],_=>rfl
 obtain⟨fd_law_unknown,F_law_unknown⟩:=c.t.d.def_ 25 (d:=Zfb) rfl
 have cE:=He.glo_ok X G (c.t.d.fact 25 (f:=.glo "_law_unknown") rfl)
 have cF:Binds K fd_law_unknown ["_law_program_here", "_law_names_here"] []:=F_law_unknown.bindsN fun _ _ _ _ _ _ us hl=>match us,hl with | [_,_],_=>rfl
 obtain⟨fd_law_missing,F_law_missing⟩:=c.t.d.def_ 26 (d:=Zfc) rfl
 have cB:=He.glo_ok X G (c.t.d.fact 26 (f:=.glo "_law_missing") rfl)
 have cx:Binds K fd_law_missing ["_law_program_here", "_law_name_here"] []:=F_law_missing.bindsN fun _ _ _ _ _ _ us hl=>match us,hl with | [_,_],_=>rfl
 obtain⟨fd_law,F_law⟩:=c.t.d.def_ 27 (d:=ZpP) rfl
 have dY:=He.glo_ok X G (c.t.d.fact 27 (f:=.glo "law") rfl)
 have eT:Binds K fd_law ["_law_script"] []:=F_law.bindsN fun _ _ _ _ _ _ us hl=>match us,hl with | [_],_=>rfl
 obtain⟨fd_Program___init__,F_Program___init__⟩:=c.t.d.def_ 28 (d:=ZcA) rfl
 have bK:Binds K fd_Program___init__ ["self", "modules"] []:=F_Program___init__.bindsN fun _ _ _ _ _ _ us hl=>match us,hl with | [_,_],_=>rfl
 have de:=He.meth_ok (c.t.d.fact 44 (f:=.meth "Program" "__init__") rfl)
 obtain⟨fd_Program___getitem__,F_Program___getitem__⟩:=c.t.d.def_ 29 (d:=Zb2) rfl
 have bd:Binds K fd_Program___getitem__ ["self", "at"] []:=F_Program___getitem__.bindsN fun _ _ _ _ _ _ us hl=>match us,hl with | [_,_],_=>rfl
 have b8:=He.meth_ok (c.t.d.fact 45 (f:=.meth "Program" "__getitem__") rfl)
 obtain⟨fd_Program___contains__,F_Program___contains__⟩:=c.t.d.def_ 30 (d:=ZbG) rfl
 have bw:Binds K fd_Program___contains__ ["self", "x"] []:=F_Program___contains__.bindsN fun _ _ _ _ _ _ us hl=>match us,hl with | [_,_],_=>rfl
 have bb:=He.meth_ok (c.t.d.fact 46 (f:=.meth "Program" "__contains__") rfl)
 obtain⟨fd_Program___len__,F_Program___len__⟩:=c.t.d.def_ 31 (d:=ZcQ) rfl
 have bM:Binds K fd_Program___len__ ["self"] []:=F_Program___len__.bindsN fun _ _ _ _ _ _ us hl=>match us,hl with | [_],_=>rfl
 have bn:=He.meth_ok (c.t.d.fact 47 (f:=.meth "Program" "__len__") rfl)
 obtain⟨fd_Program___eq__,F_Program___eq__⟩:=c.t.d.def_ 32 (d:=Zde) rfl
 have bW:Binds K fd_Program___eq__ ["self", "other"] []:=F_Program___eq__.bindsN fun _ _ _ _ _ _ us hl=>match us,hl with | [_,_],_=>rfl
 have bq:=He.meth_ok (c.t.d.fact 48 (f:=.meth "Program" "__eq__") rfl)
 obtain⟨fd_Program___or__,F_Program___or__⟩:=c.t.d.def_ 33 (d:=Zdf) rfl
 have bT:Binds K fd_Program___or__ ["self", "other"] []:=F_Program___or__.bindsN fun _ _ _ _ _ _ us hl=>match us,hl with | [_,_],_=>rfl
 have bt:=He.meth_ok (c.t.d.fact 49 (f:=.meth "Program" "__or__") rfl)
 obtain⟨fd_Program_all_names,F_Program_all_names⟩:=c.t.d.def_ 34 (d:=Zcr) rfl
 have bG:Binds K fd_Program_all_names ["self"] []:=F_Program_all_names.bindsN fun _ _ _ _ _ _ us hl=>match us,hl with | [_],_=>rfl
 have bH:=He.meth_ok (c.t.d.fact 50 (f:=.meth "Program" "all_names") rfl)
 obtain⟨fd_Program_with_module,F_Program_with_module⟩:=c.t.d.def_ 35 (d:=Zb3) rfl
 have bD:Binds K fd_Program_with_module ["self", "name", "block"] []:=F_Program_with_module.bindsN fun _ _ _ _ _ _ us hl=>match us,hl with | [_,_,_],_=>rfl
 have bC:=He.meth_ok (c.t.d.fact 51 (f:=.meth "Program" "with_module") rfl)
 obtain⟨fd_Program_without,F_Program_without⟩:=c.t.d.def_ 36 (d:=ZcR) rfl
 have bj:=He.meth_ok (c.t.d.fact 52 (f:=.meth "Program" "without") rfl)
 obtain⟨fd_Program_statements,F_Program_statements⟩:=c.t.d.def_ 37 (d:=Zcd) rfl
 have bf:Binds K fd_Program_statements ["self", "name"] []:=F_Program_statements.bindsN fun _ _ _ _ _ _ us hl=>match us,hl with | [_,_],_=>rfl
 have bg:=He.meth_ok (c.t.d.fact 53 (f:=.meth "Program" "statements") rfl)
 obtain⟨fd_Program_each_statement,F_Program_each_statement⟩:=c.t.d.def_ 38 (d:=Zbt) rfl
 have bp:Binds K fd_Program_each_statement ["self"] []:=F_Program_each_statement.bindsN fun _ _ _ _ _ _ us hl=>match us,hl with | [_],_=>rfl
 have bo:=He.meth_ok (c.t.d.fact 54 (f:=.meth "Program" "each_statement") rfl)
 have B:Blt mg:=⟨He.free_ok X G (c.t.d.fact 28 (f:=.free "isinstance") rfl),He.free_ok X G (c.t.d.fact 29 (f:=.free "int") rfl),He.free_ok X G (c.t.d.fact 30 (f:=.free "bool") rfl),He.free_ok X G (c.t.d.fact 31 (f:=.free "str") rfl),He.free_ok X G (c.t.d.fact 32 (f:=.free "len") rfl),He.free_ok X G (c.t.d.fact 33 (f:=.free "max") rfl),He.free_ok X G (c.t.d.fact 34 (f:=.free "min") rfl),He.free_ok X G (c.t.d.fact 35 (f:=.free "range") rfl),He.free_ok X G (c.t.d.fact 36 (f:=.free "list") rfl),He.free_ok X G (c.t.d.fact 37 (f:=.free "tuple") rfl),He.free_ok X G (c.t.d.fact 38 (f:=.free "dict") rfl),He.free_ok X G (c.t.d.fact 39 (f:=.free "sorted") rfl),He.free_ok X G (c.t.d.fact 40 (f:=.free "enumerate") rfl)⟩
 have hsup:=He.free_ok X G (c.t.d.fact 41 (f:=.free "super") rfl)
 have cG:=He.glo_ok X G (c.t.d.fact 42 (f:=.glo "Program") rfl)
 have bh:=He.glo_ok X G (c.t.d.fact 43 (f:=.glo "UnknownModule") rfl)
 have dN:=He.mkr_ok (c.t.d.fact 55 (f:=.mkr "Program") rfl)
 have x_0:=He.exm_ok (c.t.d.fact 56 (f:=.exm "UnknownModule" "UnknownModule" true) rfl)
 have cj:GI mg "MAX_LETTERS" 8:=by obtain⟨t,e⟩:=He.int_ok X G (c.t.d.fact 57 (f:=.int "MAX_LETTERS" 8) rfl); exact⟨_,e,⟨t,rfl⟩⟩
 have ck:GI mg "MAX_MODULES" 8:=by obtain⟨t,e⟩:=He.int_ok X G (c.t.d.fact 58 (f:=.int "MAX_MODULES" 8) rfl); exact⟨_,e,⟨t,rfl⟩⟩
 have bL:GI mg "MAX_STATEMENTS" 60:=by obtain⟨t,e⟩:=He.int_ok X G (c.t.d.fact 59 (f:=.int "MAX_STATEMENTS" 60) rfl); exact⟨_,e,⟨t,rfl⟩⟩
 have cK:GI mg "MAX_DEPTH" 3:=by obtain⟨t,e⟩:=He.int_ok X G (c.t.d.fact 60 (f:=.int "MAX_DEPTH" 3) rfl); exact⟨_,e,⟨t,rfl⟩⟩
 have bN:GI mg "MAX_OPERATORS" 3:=by obtain⟨t,e⟩:=He.int_ok X G (c.t.d.fact 61 (f:=.int "MAX_OPERATORS" 3) rfl); exact⟨_,e,⟨t,rfl⟩⟩
 have cR:GI mg "TOO_LARGE" 1000000000000000000000000000000000000000000000000000000000000:=by obtain⟨t,e⟩:=He.int_ok X G (c.t.d.fact 62 (f:=.int "TOO_LARGE" 1000000000000000000000000000000000000000000000000000000000000) rfl); exact⟨_,e,⟨t,rfl⟩⟩
 have dC:GS mg "LETTERS" "abcdefghijklmnopqrstuvwxyz" := by obtain⟨t,e⟩:=He.str_ok X G (c.t.d.fact 63 (f:=.str "LETTERS" "abcdefghijklmnopqrstuvwxyz") rfl); exact⟨_,e,⟨t,rfl⟩⟩
 have e_0:(ZrQ K (He.ga K "Program"))=true:=Zkq (Zfx c.more) 0 rfl
 have e_1:(Zlb K (He.ga K "Program") "own_names" 1)=true:=Zkq (Zfx c.more) 1 rfl
 have e_2:(Zlb K (He.ga K "Program") "own_blocks" 0)=true:=Zkq (Zfx c.more) 2 rfl
 have e_3:(SuD.fnB K PP.main.file Zw)=true:=Zkq (Zfx c.more) 3 rfl
 have e_4:(SuD.clB K Zw)=true:=Zkq (Zfx c.more) 4 rfl
 have e_5:(SuD.veB K Zw)=true:=Zkq (Zfx c.more) 5 rfl
 have e_6:(xfB K (He.ga K "UnknownModule"))=true:=Zkq (Zfx c.more) 6 rfl
 have e_7:(ZqQ K (SuD.f K Zw))=true:=Zkq (Zfx c.more) 7 rfl
 have bJ:=e_7
 have e_8:(PySem.W.fnIn K (He.ma K (He.ga K "Program") "__getitem__"))=true:=Zkq (Zfx c.more) 8 rfl
 have b9:=e_8
 have e_9:(PySem.W.notFirst K (He.ga K "Program") (.ref (He.ga K "Program")))=true:=Zkq (Zfx c.more) 9 rfl
 have cO:=e_9
 have eJ:(ZqP K (He.ga K "Program"))=true:=Zkq (Zfx c.more) 10 rfl
 have bI:=eJ
 have eG:(PySem.W.isFn K (.ref (He.ma K (He.ga K "Program") "__eq__")))=true:=Zkq (Zfx c.more) 11 rfl
 have cS:=eG
 have eN:(PySem.W.selfFirst K (He.ga K "Program"))=true:=Zkq (Zfx c.more) 12 rfl
 have cI:=eN
 obtain⟨fd_UnknownModule,D_UnknownModule⟩:=SuD.suDef (P:=PP) (c.su_ 0 (d:=Zw) rfl) e_3
 have bi:=SuD.xcls (d:=Zw) PySem.F.excBase_ValueError PySem.W.kxs_ValueError (SuD.oexV e_5) e_4
 have bu:=xfB_ok e_6
 have b3:=(⟨ZnF e_0,slotB_ok e_1,slotB_ok e_2⟩:Zd9 K (He.ga K "Program") (He.ma K (He.ga K "Program") "own_names") (He.ma K (He.ga K "Program") "own_blocks"))
 have e:=hfa.symm.trans dY
 cases e
 have b:=FunD.bindsA (ps:=["_law_script"]) F_law fun _ _ _ _ _ _ us hl=>match us,hl with | [_],_=>rfl
 refine⟨fd_law,fun s v=>b s [v] rfl,fun base _ _=>?_⟩
 have cQ:C8.Cal PP w K mg base 1 "is_integer" (ZF K) []:=ZaS (Zic F_is_integer B) cH F_is_integer.kp cP
 have bO:C8.Cal PP w K mg base 1 "is_name" (Z6 K) []:=ZaS (ZkL F_is_name B dC cj) dM F_is_name.kp dE
 have cW:C8.Cal PP w K mg base 1 "blocks_of" (Zb5 K) []:=ZaS (Zi1 F_blocks_of B) cU F_blocks_of.kp cV
 have dk:C8.Cal PP w K mg base 1 "names_of" (Zcs K) []:=ZaS (ZjH F_names_of B) df F_names_of.kp d8
 have bR:C8.Cal PP w K mg base 1 "expressions_of" (Zam K) []:=ZaS (ZfQ F_expressions_of B) bQ F_expressions_of.kp bU
 have dm:C8.Cal PP w K mg base 1 "depth_of" (Zct K) []:=ZaS (ZjJ F_depth_of B) dg F_depth_of.kp dw
 have dZ:∀ n,C8.Cal PP w K mg base (n + 2) "is_valid_expression" (Zg K n) []:=fun n=>by
  induction n with
  | zero=>exact ZaS (Zfw ZqE) be F_is_valid_expression.kp bc
  | succ n ih=>exact ZaS (Zdm F_is_valid_expression B ih bO cQ bN cR) be F_is_valid_expression.kp bc
 have ee:C8.Cal PP w K mg base 9 "is_valid_statement" (ZR K) []:=ZaS (ZdT F_is_valid_statement B bR (dZ 5) dk bO dm cK) bE F_is_valid_statement.kp bF
 have dW:∀ n,C8.Cal PP w K mg base (n + 1) "statements_in" (Zk K n) []:=fun n=>by
  induction n with
  | zero=>exact ZaS (Zfw ZsB) bA F_statements_in.kp bB
  | succ n ih=>exact ZaS (Zga F_statements_in B cW ih) bA F_statements_in.kp bB
 have eR:C8.Cal PP w K mg base 13 "first_fault" (Zbh K) []:=ZaS (ZgZ F_first_fault B ee bO (dW 10) bL ck) cv F_first_fault.kp cy
 have eM:C8.Cal PP w K mg base 1 "_law_mix" (ZcT K) []:=ZaS (ZkM F_law_mix B) dH F_law_mix.kp dJ
 have ci:C8.Cal PP w K mg base 1 "_law_next" (Zb K) []:=ZaS (ZjK F_law_next B) dq F_law_next.kp dB
 have ew:C8.Cal PP w K mg base 2 "_law_name" (ZbQ K) []:=ZaS (ZjL F_law_name B ci) cZ F_law_name.kp d9
 have eA:C8.Cal PP w K mg base 3 "_law_names" (Zbu K) []:=ZaS (Zi3 F_law_names B ci ew) cX F_law_names.kp cY
 have dX:C8.Cal PP w K mg base 2 "_law_integer" (ZL K) []:=ZaS (Zg0 F_law_integer B ci) cD F_law_integer.kp cz
 have et:∀ n,C8.Cal PP w K mg base (n + 2) "_law_expr" (ZO K n) []:=fun n=>by
  induction n with
  | zero=>exact ZaS (Zfw ZqF) ca F_law_expr.kp cn
  | succ n ih=>exact ZaS (ZjM F_law_expr B dX ci ih) ca F_law_expr.kp cn
 have eD:C8.Cal PP w K mg base 2 "_law_load" (Zcu K) []:=ZaS (ZjN F_law_load B ci) du F_law_load.kp dz
 have eF:∀ n,C8.Cal PP w K mg base (2 * n + 10) "_law_statement" (Z0 K n) []:=fun n=>by
  induction n with
  | zero=>exact ZaS (Zfw ZqG) bz F_law_statement.kp bx
  | succ n ih =>
    have cr:C8.Cal PP w K mg base (2 * n + 11) "_law_rows" (Z1 K n) []:=ZaS (ZgT F_law_rows B ci ih) cg F_law_rows.kp bZ
    exact ZpK (Zgb F_law_statement B ci (et 5) cr dX eD) (by omega) bz F_law_statement.kp bx
 have dP:C8.Cal PP w K mg base 17 "_law_rows" (Z1 K 3) []:=ZaS (ZgT F_law_rows B ci (eF 3)) cg F_law_rows.kp bZ
 have eI:C8.Cal PP w K mg base 18 "_law_first_rows" (Zan K) []:=ZaS (ZfV F_law_first_rows B dP dX ci) bV F_law_first_rows.kp bS
 have eS:C8.Cal PP w K mg base 19 "_law_program" (Zap K) []:=ZaS (Zg1 F_law_program B eI dP eA) cw F_law_program.kp cA
 have kP:C8.Mak PP w K mg base 14 "Program" (He.ga K "Program") (Zf K (He.ga K "Program")) []:=ZsA dN cG (ZeX b3 F_Program___init__ B eR) bK
 have og:ZnE PP w K mg base 1 (He.ga K "Program") (Zp K (He.ga K "Program")) (Zl K (He.ga K "Program")) :=
  ⟨⟨_,bb.at_,bb.fn,ZeG (Zc9 b3 F_Program___contains__ B) bw⟩,⟨_,b8.at_,b9,b8.fn,ZeG (Zdo b3 F_Program___getitem__ B) bd⟩⟩
 have gP:∃ u,mg "Program" = some u∧RelV (.ref (He.ga K "Program")) u:=⟨_,cG,rfl⟩
 have sAl:MSl PP w K mg base 3 (He.ga K "Program") "all_names" (Z3 K (He.ga K "Program")):=⟨⟨_,b3.c,bH,ZeG (ZeE b3 F_Program_all_names B) bG⟩⟩
 have eqo:EqO PP w K mg base 1 (He.ga K "Program") (Zz K (He.ga K "Program")):=⟨⟨_,bq.at_,bq.fn,ZeG (ZfS b3 (Zld bI).1 (Zld bI).2 gP F_Program___eq__ B) bW⟩⟩
 have geE:Zkb PP w K mg base 12 (He.ga K "Program"):=Zow b3 bo F_Program_each_statement bp (dW 10)
 have lg:ZqU PP w K mg base 1 (He.ga K "Program") (Zad K (He.ga K "Program")):=⟨⟨_,bn.at_,bn.fn,ZeG (Zfv b3 F_Program___len__ B) bM⟩⟩
 have eO:∀ n,C8.Cal PP w K mg base (n + 1) "_law_alike" (Zy K n) []:=fun n=>by
  induction n with
  | zero=>exact ZaS (Zfw ZqH) bY F_law_alike.kp bX
  | succ n ih=>exact ZaS (Zi2 F_law_alike B ih) bY F_law_alike.kp bX
 have eK:∀ n,C8.Cal PP w K mg base (n + 1) "_law_walk" (ZI K n) []:=fun n=>by
  induction n with
  | zero=>exact ZaS (Zfw ZqI) cq F_law_walk.kp cf
  | succ n ih=>exact ZaS (ZjO F_law_walk B ih) cq F_law_walk.kp cf
 have xU:XMk PP w K mg base 1 "UnknownModule" (He.ga K "UnknownModule") ["module"]:=⟨⟨_,fd_UnknownModule,_,_,_,_,bi,ZfA D_UnknownModule bi hsup,ZfB D_UnknownModule bJ,bh⟩⟩
 have noU:PySem.W.findIn K (.ref (He.ga K "UnknownModule")) "module" = some none:=bi.no _ (Yg ..)
 have sSt:MSl PP w K mg base 12 (He.ga K "Program") "statements" (ZT K (He.ga K "Program")):=⟨⟨_,b3.c,bg,ZeG (ZdV b3 F_Program_statements B (dW 10)) bf⟩⟩
 have sWm:MSl PP w K mg base 16 (He.ga K "Program") "with_module" (ZD K (He.ga K "Program")):=⟨⟨_,b3.c,bC,ZeG (Zdq b3 F_Program_with_module B kP) bD⟩⟩
 have sWo:MSl PP w K mg base 16 (He.ga K "Program") "without" (ZbU K (He.ga K "Program")):=⟨⟨_,b3.c,bj,ZeZ b3 F_Program_without B kP xU⟩⟩
 have nWo:Zp3 PP w K mg base 16 (He.ga K "Program") "without" (Zbv K (He.ga K "Program") (He.ga K "UnknownModule")):=⟨⟨_,b3.c,bj,ZeY b3 F_Program_without B kP xU⟩⟩
 have nSt:Zp3 PP w K mg base 12 (He.ga K "Program") "statements" (ZE K (He.ga K "Program") (He.ga K "UnknownModule")):=⟨⟨_,b3.c,bg,ZeG (Zds b3 F_Program_statements B (dW 10) xU) bf⟩⟩
 have oro:OrO PP w K mg base 16 (He.ga K "Program") (Zao K (He.ga K "Program")):=⟨⟨_,cI,bt.at_,bt.fn,ZeG (ZfU b3 F_Program___or__ B kP) bT⟩⟩
 have ixn:IxN PP w K mg base 3 (He.ga K "Program") (ZA K (He.ga K "Program") (He.ga K "UnknownModule")):=⟨⟨_,b8.at_,b9,b8.fn,ZeG (Zda b3 F_Program___getitem__ B xU) bd⟩⟩
 have eh:C8.Cal PP w K mg base 81 "_law_is" (ZaQ K (He.ga K "Program")) []:=ZaS (Zl3 F_law_is B lg (eO 70) sAl og (eK 5) sSt geE) dQ F_law_is.kp dO
 have eq:C8.Cal PP w K mg base 3 "_law_turned" (ZbC K) []:=ZaS (Zid F_law_turned B ci) cM F_law_turned.kp cJ
 have eE:C8.Cal PP w K mg base 18 "_law_unknown" (Zag K (He.ga K "Program")) []:=ZaS (Zg2 x_0 F_law_unknown B nWo bh bu noU) cE F_law_unknown.kp cF
 have eQ:C8.Cal PP w K mg base 14 "_law_missing" (Zbj K (He.ga K "Program")) []:=ZaS (Zg3 x_0 F_law_missing B ixn nSt bh bu noU) cB F_law_missing.kp cx
 exact ZqD (CU:=He.ga K "UnknownModule") cO F_law B eh og eQ eE sWm eqo sWo oro kP eq ci eS eM
end M
open PySem PySem.W PySem.Calls PyProof.Rows
theorem PySem.Challenge.cw_modlink_k02_programs_as_sets_holds : PySem.Challenge.rw_modlink_k02_programs_as_sets.Holds := by
 refine M.fin_open fun hws=>?_
 refine HandSHeadRun.head_any (r:=OpenLaw.row PySem.Challenge.rw_modlink_k02_programs_as_sets) (q:=view (OpenLaw.row PySem.Challenge.rw_modlink_k02_programs_as_sets).prog [43]) (H:=M.hk) (ob:=M.ob) (M:=30000) (loose:=M.nms) (d:=HandSHeadRun.topDef (OpenLaw.row PySem.Challenge.rw_modlink_k02_programs_as_sets).prog 43) (kwd:=[]) M.ZrS
  M.fin_e M.fin_f M.run M.fin_d M.fin_p M.fin_k (by rfl) hws M.fin_ok M.fin_b ?hw ?hc
 case hw=>w_witness2
 case hc =>
  refine L2.walk_ofE (l:=PySem.Challenge.rw_modlink_k02_programs_as_sets) (n:=63) (k:=216) (x := "_law_script") (CX:=L2.CX0) rfl (by decide) (by kernel_rfl) ⟨rfl,by decide,by decide⟩ ?F (fun _ _ _ _ z=>z)
  intro w mg fa h Y G hmg0
  obtain⟨K,KX,c⟩:=Y
  have hmg:mg ("law" : PySem.Str)=some (.ref fa):=by
   have e:(HandSHeadRun.topDef (OpenLaw.row PySem.Challenge.rw_modlink_k02_programs_as_sets).prog 43).name=("law" : PySem.Str):=M.fin_n
   rw[← e]
   exact hmg0
  obtain⟨fd,hb,hF⟩:=M.facts (w:=w) KX G hmg c
  exact⟨K,fd,M.Zke K,KX,hb,fun H a ns hl _ hS=>⟨a,ns,rfl,hS,hl,fun _=>rfl⟩,hF⟩
