import PyProof.Rows.All
import Wide.All
import OpenK.AllK
import Wide.FinOn
import HandS.Words
import HandS.WordsExc
import HandS.Exc
import HandS.Head0
import HandS.Head1
import HandS.Head2
import HandS.HeadHook1
import HandS.HeadHook2
import HandS.ForMost
import HandS.ForExc
import HandS.Wide
import HandS.EndBits
import HandS.IsInst
import HandS.Conv
import HandS.TupAny
import PyProof.Rows.StrIntSpec
import PyProof.FString3
import HandS.FStr
import HandS.Replace
import HandS.Style
import KE.KRevSl
import PyProof.SliceStr2
import HandS.ExcOwn
import HandS.TryOnly
import HandS.TryMany
import PyProof.ExcBaseAll.ValueError
import PyProof.StrOps2
import HandS.More
import PyProof.StrLaws
import PyProof.Rows.StrMeet
import PyProof.Rows.SortShellAny
import HandS.TupMul
import HandS.ExcIs
import HandS.Dict
import HandS.ExcCtx
import HandS.RaiseFrom
import HandS.SuiteRaise
import HandS.TupLen
import HandS.WordsDict
import HandS.ExcInit
import HandS.ExcField
import HandS.DictComp
import HandS.Deep
import HandS.SetFor
import HandS.Strs
import KE.SortData
import HandS.List
import HandS.HotCalls
import HandS.ExcInitHot
import KE.KTryMore
import HandS.HeadEnd
import PySem.Challenge.RW_sealchart_k11_errors_and_limits
import HandS.Iter
import HandS.ListItems
import KE.IntTextLaws
import KE.KIntText
import KE.IntTextText
set_option Elab.async false
set_option linter.all false
set_option maxRecDepth 100000
set_option maxHeartbeats 4000000
namespace HE
open PySem L2 PySem.Spec PyProof.Rows
def fX:List Value:=[.type "ValueError",.type "Exception",.type "BaseException",.type "object"]
def Nk(K:PySem.W.Frag)(x:Str)(i:Int):Bool:=match PySem.W.nsIn K mainGlobals x with
 |some (some (.int j _))=>decide (j=i)
 |_=>false
def Va(K:PySem.W.Frag)(x:Str)(ss:List String):Bool:=(match K.lookup (He.ga K x) with
 |some ⟨.type c,none,.seq its _,_⟩=>decide (c="tuple")&&(decide (its.size≤sizeLine)&&He.relAll (ss.map fun s=>V.str (Str.ofString s)) its.toList)
 |_=>false)&&decide (PySem.W.nsIn K mainGlobals x=some (some (.ref (He.ga K x))))
def NP(K:PySem.W.Frag)(C:Addr):Bool:=match K.lookup C with
 |some ⟨.type "type",_,.cls cd,sl⟩=>(match cd.mro,sl.toList with
  | .ref C'::bm,[_,_,_,_,some (.builtin n),_]=>C'==C&&n=="ValueError.__new__"&& !cd.hasDel&&cd.hasDict&&PySem.HandSPX.refsVE bm
  |_,_=>false)
 |_=>false
abbrev GD:Type:=Bool×List He.FnV
def TJ(ft:List (PySem.W.Frag→Bool))(fn:List He.FnD)(K:PySem.W.Frag):GD:=((ft.all fun f=>f K)&&fn.all fun d=>(He.Fa.code d.at_ d.qual).ok K,fn.map fun d=>He.fnObs K d.at_)
def Vc(fn:List He.FnD):GD:=(true,fn.map He.FnD.val)
def Em(ft:List (PySem.W.Frag→Bool))(fn:List He.FnD)(K:PySem.W.Frag):Prop:=TJ ft fn K=Vc fn
section
variable{ft:List (PySem.W.Frag→Bool)}{fn:List He.FnD}{K:PySem.W.Frag}
theorem Em.all(c:Em ft fn K):(ft.all fun f=>f K)=true:=
 (Bool.and_eq_true_iff.mp (show ((ft.all fun f=>f K)&&fn.all fun d=>(He.Fa.code d.at_ d.qual).ok K)=true from congrArg (fun z:GD=>z.1) c)).1
theorem Em.fact(c:Em ft fn K)(i:Nat){f:PySem.W.Frag→Bool}(h:ft[i]? =some f:=by rfl):f K=true:=
 List.all_eq_true.mp c.all f (List.mem_of_getElem? h)
theorem Em.def_(c:Em ft fn K)(i:Nat){d:He.FnD}(h:fn[i]? =some d:=by rfl):
  ∃oc od osl kV doc pm an cdv ct,K.lookup (He.fAd K d.at_)=some ⟨oc,od,.func (PySem.W.fnOf d.name d.qual d.params d.body d.scope .none kV doc pm an cdv ct),osl⟩∧PySem.W.codeIn K cdv d.qual=true:=by
 have c2:=(Bool.and_eq_true_iff.mp (show ((ft.all fun f=>f K)&&fn.all fun d=>(He.Fa.code d.at_ d.qual).ok K)=true from congrArg (fun z:GD=>z.1) c)).2
 have e:fn.map (fun d=>He.fnObs K d.at_)=fn.map He.FnD.val:=congrArg (fun z:GD=>z.2) c
 have e2:(fn.map fun d=>He.fnObs K d.at_)[i]? =(fn.map He.FnD.val)[i]? :=by rw [e]
 rw [List.getElem?_map,List.getElem?_map,h] at e2
 exact He.fn_ok (Option.some.inj e2) (List.all_eq_true.mp c2 d (List.mem_of_getElem? h))
end
end HE
namespace HE
open PySem PySem.W PySem.Calls PySem.Spec PyProof.Rows L2
def Mv(g:Addr→Option Obj)(x:Str):Addr:=He.ga (He.frG g [mainGlobals]) x
def Qo(g:Addr→Option Obj)(cls:List Str):List Addr:=mainGlobals::cls.flatMap fun x=>match g (Mv g x) with
 |some ⟨_,_,.cls cd,_⟩=>[Mv g x,cd.ns]
 |_=>[Mv g x]
def Wd(g:Addr→Option Obj)(a:Addr):List Addr:=match g a with
 |some ⟨_,_,.func fd,_⟩=>(match fd.code with
  | .ref c=>[a,c]
  |_=>[a])
 |_=>[a]
def V1(g:Addr→Option Obj)(cls:List Str)(FN:List He.FnD):List Addr:=Qo g cls++FN.flatMap fun d=>Wd g (He.fAd (He.frG g (Qo g cls)) d.at_)
def N6(cls:List Str)(FN:List He.FnD)(ft:List (PySem.W.Frag→Bool))(fn:List He.FnD)(g:Addr→Option Obj):GD:=TJ ft fn (He.frG g (V1 g cls FN))
def Rh(cls:List Str)(FN:List He.FnD)(ft:List (PySem.W.Frag→Bool))(fn:List He.FnD):PySem.W.Hook where
 α:=GD
 obs:=fun s=>N6 cls FN ft fn s.heap.get?
 val:=fun _=>Vc fn
 says:=fun _ h=>∃K:PySem.W.Frag,K.In h∧Em ft fn K
 of:=fun _ _ e=>⟨_,He.frG_in,e⟩
 keeps:=fun _ _ _ ⟨K,hK,c⟩ k=>⟨K,PySem.W.Frag.In.keeps hK k,c⟩
theorem aJ{cls:List Str}{FN:List He.FnD}{ft:List (PySem.W.Frag→Bool)}{fn:List He.FnD}{g:Addr→Option Obj}{s:Shared}(h:∀a,g a=s.heap.get? a):N6 cls FN ft fn g=(Rh cls FN ft fn).obs s:=by
 have e:g=s.heap.get? :=funext h
 rw [e]<;>rfl
end HE
namespace HM
open PySem L2
inductive D where
 |non|bl (b:Bool)|int (i:Int)|str (s:List Nat)|tup (xs:List D)|ref (i:Nat)|Ar (ns:List Int)|Cg (a:Addr)|Bv (a dx:Addr) (d:D)
 deriving Inhabited
inductive LO where
 |lst (xs:List D)
 |ins (c:String) (fs:List (String×D))
 |dK (kvs:List (Sum Int (List Nat)×D))
 |dT (kvs:List (List (Sum Int (List Nat))×D))
 |dL (kvs:List (Sum Int (List Nat)×D))
 deriving Inhabited
abbrev LH:=List LO
abbrev EN:=List (Option D)
structure XO where
 cls:String
 JK:List (String×D)
inductive Res(α:Type) where
 |ok (a:α) (h:LH)
 |exc (e:XO) (h:LH)
 |bad
def Res.bind{α β:Type}(x:Res α)(f:α→LH→Res β):Res β:=match x with
 | .ok a h=>f a h
 | .exc e h=>.exc e h
 | .bad=>.bad
abbrev M(α:Type):=EN→LH→Res α
abbrev MF:=List D→LH→Res D
inductive B_ where
 |next (e:EN) (h:LH)
 |ret (d:D) (h:LH)
 |brk (e:EN) (h:LH)
 |cnt (e:EN) (h:LH)
 |exc (x:XO) (e:EN) (h:LH)
 |bad
abbrev MS:=EN→LH→B_
mutual
inductive RD(K:PySem.W.Frag)(φ:Nat→Addr)(n:Nat)(H:Hp):D→V→Prop
 |non:RD K φ n H .non .non
 |bl (b:Bool):RD K φ n H (.bl b) (.bl b)
 |int (i:Int):RD K φ n H (.int i) (.int i)
 |str (s:List Nat):RD K φ n H (.str s) (.str ⟨s.toArray⟩)
 |tup {xs:List D} {vs:List V} {a:Addr}:SqT K H a vs→Aj K φ n H xs vs→RD K φ n H (.tup xs) (.ref a)
 |ref {i:Nat}:i<n→RD K φ n H (.ref i) (.ref (φ i))
 |Ar {ns:List Int} {a:Addr}:((∃o,H a=some (.frz o (.lst (ns.map V.int))))∨(∃(o:Obj) (its:Array Value) (m:Nat),K.lookup a=some o∧o.cls=.type "list"∧o.dict=none∧o.data=.seq its m∧its.size≤sizeLine∧Vals (ns.map V.int) its.toList))→RD K φ n H (.Ar ns) (.ref a)
 |Cg (a:Addr):RD K φ n H (.Cg a) (.ref a)
 |Bv {d:D} {v:V} (a dx:Addr):H dx=some (.xd [(Str.ofString "reason",v)])→RD K φ n H d v→RD K φ n H (.Bv a dx d) (.ref a)
inductive Aj(K:PySem.W.Frag)(φ:Nat→Addr)(n:Nat)(H:Hp):List D→List V→Prop
 |nil:Aj K φ n H [] []
 |cons {d:D} {v:V} {ds:List D} {vs:List V}:RD K φ n H d v→Aj K φ n H ds vs→Aj K φ n H (d::ds) (v::vs)
end
def kc:Sum Int (List Nat)→Key
 | .inl i=>.inl i
 | .inr s=>.inr ⟨s.toArray⟩
inductive RF(K:PySem.W.Frag)(φ:Nat→Addr)(n:Nat)(H:Hp):List (String×D)→List (Str×V)→Prop
 |nil:RF K φ n H [] []
 |cons {f:String} {d:D} {v:V} {ds:List (String×D)} {vs:List (Str×V)}:RD K φ n H d v→RF K φ n H ds vs→RF K φ n H ((f,d)::ds) ((Str.ofString f,v)::vs)
inductive C_(K:PySem.W.Frag)(φ:Nat→Addr)(n:Nat)(H:Hp):List (Sum Int (List Nat)×D)→List (Key×V)→Prop
 |nil:C_ K φ n H [] []
 |cons {k:Sum Int (List Nat)} {d:D} {v:V} {ds:List (Sum Int (List Nat)×D)} {vs:List (Key×V)}:RD K φ n H d v→C_ K φ n H ds vs→C_ K φ n H ((k,d)::ds) ((kc k,v)::vs)
inductive D_(K:PySem.W.Frag)(φ:Nat→Addr)(n:Nat)(H:Hp):List (List (Sum Int (List Nat))×D)→List (List Key×V)→Prop
 |nil:D_ K φ n H [] []
 |cons {k:List (Sum Int (List Nat))} {d:D} {v:V} {ds:List (List (Sum Int (List Nat))×D)} {vs:List (List Key×V)}:RD K φ n H d v→D_ K φ n H ds vs→D_ K φ n H ((k,d)::ds) ((k.map kc,v)::vs)
def OA(K:PySem.W.Frag)(mg:Str→Option Value)(φ:Nat→Addr)(n:Nat)(H:Hp)(a:Addr):LO→Prop
 | .lst ds=>∃vs,H a=some (.lst vs)∧Aj K φ n H ds vs
 | .ins c fs=>∃C dx vs,mg (Str.ofString c)=some (.ref C)∧H a=some (.ins C dx vs)∧RF K φ n H fs vs
 | .dK kvs=>∃vs,H a=some (.dK vs)∧C_ K φ n H kvs vs
 | .dT kvs=>∃vs,H a=some (.dT vs)∧D_ K φ n H kvs vs
 | .dL kvs=>∃o vs,H a=some (.frz o (.dK vs))∧C_ K φ n H kvs vs
structure HR(K:PySem.W.Frag)(mg:Str→Option Value)(φ:Nat→Addr)(lh:LH)(H:Hp):Prop where
 inj:∀i j,i<lh.length→j<lh.length→φ i=φ j→i=j
 obj:∀i o,lh[i]? =some o→OA K mg φ lh.length H (φ i) o
structure Ext(H H':Hp):Prop where
 tup:∀a xs,H a=some (.tup xs)→H' a=some (.tup xs)
 frz:∀a o u,H a=some (.frz o u)→H' a=some (.frz o u)
 xd:∀a vs,H a=some (.xd vs)→H' a=some (.xd vs)
theorem Ext.refl(H:Hp):Ext H H:=⟨fun _ _ h=>h,fun _ _ _ h=>h,fun _ _ h=>h⟩
theorem Ext.trans{H H1 H2:Hp}(a:Ext H H1)(b:Ext H1 H2):Ext H H2:=⟨fun x xs h=>b.tup x xs (a.tup x xs h),fun x o u h=>b.frz x o u (a.frz x o u h),fun x vs h=>b.xd x vs (a.xd x vs h)⟩
structure Po(K:PySem.W.Frag)(mg:Str→Option Value)(φ:Nat→Addr)(lh:LH)(H:Hp)(φ':Nat→Addr)(Ae:LH)(H':Hp):Prop where
 le:lh.length≤Ae.length
 ag:∀i,i<lh.length→φ' i=φ i
 ext:Ext H H'
 hr:HR K mg φ' Ae H'
section
variable{K:PySem.W.Frag}{mg:Str→Option Value}{φ φ' φ1 φ2:Nat→Addr}{lh Ae Ad Az:LH}{H H' H1 H2:Hp}{n n':Nat}
theorem Po.refl(h:HR K mg φ lh H):Po K mg φ lh H φ lh H:=⟨Nat.le_refl _,fun _ _=>rfl,Ext.refl H,h⟩
theorem Po.trans(a:Po K mg φ lh H φ1 Ad H1)(b:Po K mg φ1 Ad H1 φ2 Az H2):Po K mg φ lh H φ2 Az H2:=
 ⟨Nat.le_trans a.le b.le,fun i hi=>(b.ag i (Nat.lt_of_lt_of_le hi a.le)).trans (a.ag i hi),a.ext.trans b.ext,b.hr⟩
theorem Lf{a:Addr}{vs:List V}(e:Ext H H')(h:SqT K H a vs):SqT K H' a vs:=by
 rcases h with (h|⟨o,h⟩)|h
 ·exact .inl (.inl (e.tup _ _ h))
 ·exact .inl (.inr ⟨o,e.frz _ _ _ h⟩)
 ·exact .inr h
mutual
theorem RD.mono(hn:n≤n')(ag:∀i,i<n→φ' i=φ i)(e:Ext H H'):∀{d:D} {v:V},RD K φ n H d v→RD K φ' n' H' d v
 |_,_,.non=>.non
 |_,_,.bl b=>.bl b
 |_,_,.int i=>.int i
 |_,_,.str s=>.str s
 |_,_,.tup h r=>.tup (Lf e h) (Aj.mono hn ag e r)
 |_,_,.ref (i:=i) h=>by
  have q:=ag i h
  rw [←q]
  exact .ref (Nat.lt_of_lt_of_le h hn)
 |_,_,.Ar h=>.Ar (h.imp (fun ⟨o,h⟩=>⟨o,e.frz _ _ _ h⟩) id)
 |_,_,.Cg a=>.Cg a
 |_,_,.Bv a dx h r=>.Bv a dx (e.xd _ _ h) (RD.mono hn ag e r)
theorem Aj.mono(hn:n≤n')(ag:∀i,i<n→φ' i=φ i)(e:Ext H H'):∀{d:List D} {v:List V},Aj K φ n H d v→Aj K φ' n' H' d v
 |_,_,.nil=>.nil
 |_,_,.cons h r=>.cons (RD.mono hn ag e h) (Aj.mono hn ag e r)
end
theorem RF.mono(hn:n≤n')(ag:∀i,i<n→φ' i=φ i)(e:Ext H H'){d v}(r:RF K φ n H d v):RF K φ' n' H' d v:=by
 induction r with
 |nil=>exact .nil
 |cons h _ ih=>exact .cons (h.mono hn ag e) ih
theorem C_.mono(hn:n≤n')(ag:∀i,i<n→φ' i=φ i)(e:Ext H H'){d v}(r:C_ K φ n H d v):C_ K φ' n' H' d v:=by
 induction r with
 |nil=>exact .nil
 |cons h _ ih=>exact .cons (h.mono hn ag e) ih
theorem D_.mono(hn:n≤n')(ag:∀i,i<n→φ' i=φ i)(e:Ext H H'){d v}(r:D_ K φ n H d v):D_ K φ' n' H' d v:=by
 induction r with
 |nil=>exact .nil
 |cons h _ ih=>exact .cons (h.mono hn ag e) ih
theorem RD.up(p:Po K mg φ lh H φ' Ae H'){d:D}{v:V}(r:RD K φ lh.length H d v):RD K φ' Ae.length H' d v:=r.mono p.le p.ag p.ext
theorem Aj.up(p:Po K mg φ lh H φ' Ae H'){d:List D}{v:List V}(r:Aj K φ lh.length H d v):Aj K φ' Ae.length H' d v:=r.mono p.le p.ag p.ext
theorem Aj.len{d:List D}{v:List V}(r:Aj K φ n H d v):d.length=v.length:=by
 induction d generalizing v with
 |nil=>cases r;rfl
 |cons a l ih=>
  cases r with
  |cons h q=>rw [List.length_cons,List.length_cons,ih q]
theorem Aj.get{d:List D}{v:List V}(r:Aj K φ n H d v){i:Nat}{x:D}(h:d[i]? =some x):∃y,v[i]? =some y∧RD K φ n H x y:=by
 induction d generalizing v i with
 |nil=>simp at h
 |cons a l ih=>
  cases r with
  |cons ha q=>
   cases i with
   |zero=>
    simp only [List.getElem?_cons_zero,Option.some.injEq] at h ⊢
    subst h
    exact ⟨_,rfl,ha⟩
   |succ i=>
    simp only [List.getElem?_cons_succ] at h ⊢
    exact ih q h
theorem Aj.app{d e:List D}{v w:List V}(r:Aj K φ n H d v)(q:Aj K φ n H e w):Aj K φ n H (d++e) (v++w):=by
 induction d generalizing v with
 |nil=>cases r;exact q
 |cons a l ih=>
  cases r with
  |cons h t=>exact .cons h (ih t)
theorem Aj.take{d:List D}{v:List V}(r:Aj K φ n H d v)(i:Nat):Aj K φ n H (d.take i) (v.take i):=by
 induction d generalizing v i with
 |nil=>cases r;simp;exact .nil
 |cons a l ih=>
  cases r with
  |cons h t=>
   cases i with
   |zero=>exact .nil
   |succ i=>exact .cons h (ih t i)
theorem Aj.drop{d:List D}{v:List V}(r:Aj K φ n H d v)(i:Nat):Aj K φ n H (d.drop i) (v.drop i):=by
 induction d generalizing v i with
 |nil=>cases r;simp;exact .nil
 |cons a l ih=>
  cases r with
  |cons h t=>
   cases i with
   |zero=>exact .cons h t
   |succ i=>exact ih t i
theorem Aj.set{d:List D}{v:List V}(r:Aj K φ n H d v){x:D}{y:V}(q:RD K φ n H x y)(i:Nat):Aj K φ n H (d.set i x) (v.set i y):=by
 induction d generalizing v i with
 |nil=>cases r;exact .nil
 |cons a l ih=>
  cases r with
  |cons h t=>
   cases i with
   |zero=>exact .cons q t
   |succ i=>exact .cons h (ih t i)
theorem OA.mono(hn:n≤n')(ag:∀i,i<n→φ' i=φ i)(e:Ext H H'){a:Addr}(ha:H' a=H a):∀{o:LO},OA K mg φ n H a o→OA K mg φ' n' H' a o
 | .lst _,⟨vs,h,r⟩=>⟨vs,ha.trans h,r.mono hn ag e⟩
 | .ins _ _,⟨C,dx,vs,m,h,r⟩=>⟨C,dx,vs,m,ha.trans h,r.mono hn ag e⟩
 | .dK _,⟨vs,h,r⟩=>⟨vs,ha.trans h,r.mono hn ag e⟩
 | .dT _,⟨vs,h,r⟩=>⟨vs,ha.trans h,r.mono hn ag e⟩
 | .dL _,⟨o,vs,h,r⟩=>⟨o,vs,ha.trans h,r.mono hn ag e⟩
theorem OA.some{a:Addr}:∀{o:LO},OA K mg φ n H a o→∃u,H a=some u
 | .lst _,⟨vs,h,r⟩=>⟨_,h⟩
 | .ins _ _,⟨C,dx,vs,m,h,r⟩=>⟨_,h⟩
 | .dK _,⟨vs,h,r⟩=>⟨_,h⟩
 | .dT _,⟨vs,h,r⟩=>⟨_,h⟩
 | .dL _,⟨o,vs,h,r⟩=>⟨_,h⟩
theorem HR.Zo(h:HR K mg φ lh H){i:Nat}(hi:i<lh.length):∃u,H (φ i)=Option.some u:=
 (h.obj i lh[i] (by simp [hi])).some
def Wr(H:Hp)(a:Addr):Prop:=∃u,H a=Option.some u∧(∀xs,u≠.tup xs)∧((∀ob w,u≠.frz ob w)∧∀vs,u≠.xd vs)
theorem Wr.lst{a:Addr}{vs:List V}(h:H a=Option.some (.lst vs)):Wr H a:=⟨_,h,fun _ z=>by (cases z),fun _ _ z=>by (cases z),fun _ z=>by (cases z)⟩
theorem Wr.ins{a C dx:Addr}{vs:List (Str×V)}(h:H a=Option.some (.ins C dx vs)):Wr H a:=⟨_,h,fun _ z=>by (cases z),fun _ _ z=>by (cases z),fun _ z=>by (cases z)⟩
theorem Wr.dK{a:Addr}{vs:List (Key×V)}(h:H a=Option.some (.dK vs)):Wr H a:=⟨_,h,fun _ z=>by (cases z),fun _ _ z=>by (cases z),fun _ z=>by (cases z)⟩
theorem Wr.dT{a:Addr}{vs:List (List Key×V)}(h:H a=Option.some (.dT vs)):Wr H a:=⟨_,h,fun _ z=>by (cases z),fun _ _ z=>by (cases z),fun _ z=>by (cases z)⟩
theorem Ext.new{p:Addr}{o:HO}(hp:H p=none):Ext H (upd H p o):=
 ⟨fun a xs h=>by rw [upd_ne (ne_of_none h hp)];exact h,fun a ob u h=>by rw [upd_ne (ne_of_none h hp)];exact h,fun a vs h=>by rw [upd_ne (ne_of_none h hp)];exact h⟩
theorem Ext.put{p:Addr}{o u:HO}(hp:H p=some u)(h1:∀xs,u≠.tup xs)(h2:(∀ob w,u≠.frz ob w)∧∀vs,u≠.xd vs):Ext H (upd H p o):=by
 refine ⟨fun a xs h=>?_,fun a ob w h=>?_,fun a vs h=>?_⟩
 ·rw [upd_ne]
  ·exact h
  ·rintro rfl
   rw [hp] at h
   exact h1 _ (Option.some.inj h)
 ·rw [upd_ne]
  ·exact h
  ·rintro rfl
   rw [hp] at h
   exact h2.1 _ _ (Option.some.inj h)
 ·rw [upd_ne]
  ·exact h
  ·rintro rfl
   rw [hp] at h
   exact h2.2 _ (Option.some.inj h)
theorem Po.side{p:Addr}{o:HO}(h:HR K mg φ lh H)(hp:H p=none):Po K mg φ lh H φ lh (upd H p o):=by
 have e:Ext H (upd H p o):=Ext.new hp
 refine ⟨Nat.le_refl _,fun _ _=>rfl,e,h.inj,fun i u hi=>(h.obj i u hi).mono (Nat.le_refl _) (fun _ _=>rfl) e ?_⟩
 obtain ⟨w,hw⟩:=(h.obj i u hi).some
 exact upd_ne (ne_of_none hw hp)
def ext1(φ:Nat→Addr)(n:Nat)(p:Addr):Nat→Addr:=fun i=>if i=n then p else φ i
theorem Gf{p:Addr}{i:Nat}(h:i<n):ext1 φ n p i=φ i:=by
 unfold ext1;rw [if_neg (Nat.ne_of_lt h)]
theorem Hz{p:Addr}:ext1 φ n p n=p:=by
 unfold ext1;rw [if_pos rfl]
theorem Po.new{p:Addr}{o:HO}{u:LO}(h:HR K mg φ lh H)(hp:H p=none)
  (ho:OA K mg (ext1 φ lh.length p) (lh.length+1) (upd H p o) p u):Po K mg φ lh H (ext1 φ lh.length p) (lh++[u]) (upd H p o):=by
 have e:Ext H (upd H p o):=Ext.new hp
 have hl:(lh++[u]).length=lh.length+1:=by simp
 have hne:∀i,i<lh.length→φ i≠p:=fun i hi z=>by
  obtain ⟨w,hw⟩:=h.Zo hi
  rw [z,hp] at hw
  cases hw
 refine ⟨by omega,fun i hi=>Gf hi,e,fun i j hi hj z=>?_,fun i w hi=>?_⟩
 ·rw [hl] at hi hj
  by_cases c:i=lh.length
  ·by_cases d:j=lh.length
   ·omega
   ·subst c
    rw [Hz,Gf (by omega)] at z
    exact absurd z.symm (hne j (by omega))
  ·by_cases d:j=lh.length
   ·subst d
    rw [Hz,Gf (by omega)] at z
    exact absurd z (hne i (by omega))
   ·rw [Gf (by omega),Gf (by omega)] at z
    exact h.inj i j (by omega) (by omega) z
 ·rw [hl]
  by_cases c:i=lh.length
  ·subst c
   rw [List.getElem?_append_right (Nat.le_refl _),Nat.sub_self] at hi
   simp only [List.getElem?_cons_zero,Option.some.injEq] at hi
   subst hi
   rw [Hz]
   exact ho
  ·have hi2:i<lh.length:=by
    have:=(List.getElem?_eq_some_iff.mp hi).1
    rw [hl] at this
    omega
   rw [List.getElem?_append_left hi2] at hi
   rw [Gf hi2]
   exact (h.obj i w hi).mono (by omega) (fun j hj=>Gf hj) e (upd_ne (hne i hi2))
theorem Po.put{i:Nat}{o:HO}{u:LO}(h:HR K mg φ lh H)(hi:i<lh.length)(wr:Wr H (φ i))(ho:OA K mg φ lh.length (upd H (φ i) o) (φ i) u):Po K mg φ lh H φ (lh.set i u) (upd H (φ i) o):=by
 obtain ⟨w,hw,h1,h2⟩:=wr
 have e:Ext H (upd H (φ i) o):=Ext.put hw h1 h2
 refine ⟨by simp,fun _ _=>rfl,e,by simpa using h.inj,fun j x hj=>?_⟩
 rw [List.length_set]
 by_cases c:j=i
 ·subst c
  rw [List.getElem?_set_self hi] at hj
  cases hj
  exact ho
 ·rw [List.getElem?_set_ne (Ne.symm c)] at hj
  have hj2:=(List.getElem?_eq_some_iff.mp hj).1
  exact (h.obj j x hj).mono (Nat.le_refl _) (fun _ _=>rfl) e (upd_ne fun z=>c (h.inj j i hj2 hi z))
end
structure RS(K:PySem.W.Frag)(φ:Nat→Addr)(n:Nat)(H:Hp)(env:EN)(σ:L2.St):Prop where
 len:env.length=σ.length
 at':∀(i:Nat) (d:D),env[i]? =some (some d)→∃v,σ[i]? =some (some v)∧RD K φ n H d v
section
variable{K:PySem.W.Frag}{mg:Str→Option Value}{φ φ':Nat→Addr}{lh Ae:LH}{H H':Hp}{n:Nat}{env:EN}{σ:L2.St}
theorem RS.up(p:Po K mg φ lh H φ' Ae H')(r:RS K φ lh.length H env σ):RS K φ' Ae.length H' env σ:=⟨r.len,fun i d h=>by
 obtain ⟨v,e,q⟩:=r.at' i d h
 exact ⟨v,e,q.up p⟩⟩
theorem RS.set(r:RS K φ n H env σ){d:D}{v:V}(q:RD K φ n H d v)(i:Nat):RS K φ n H (env.set i (some d)) (σ.set i (some v)):=by
 refine ⟨by simpa using r.len,fun j x h=>?_⟩
 by_cases c:i=j
 ·subst c
  have hi:=(List.getElem?_eq_some_iff.mp h).1
  rw [List.length_set] at hi
  rw [List.getElem?_set_self hi] at h
  cases h
  exact ⟨v,by rw [List.getElem?_set_self (by rw [←r.len];exact hi)],q⟩
 ·rw [List.getElem?_set_ne c] at h
  obtain ⟨w,e,q⟩:=r.at' j x h
  exact ⟨w,by rw [List.getElem?_set_ne c];exact e,q⟩
theorem RS.clear(r:RS K φ n H env σ)(i:Nat):RS K φ n H (env.set i none) (σ.set i none):=by
 refine ⟨by simpa using r.len,fun j x h=>?_⟩
 by_cases c:i=j
 ·subst c
  have hi:=(List.getElem?_eq_some_iff.mp h).1
  rw [List.length_set] at hi
  rw [List.getElem?_set_self hi] at h
  cases h
 ·rw [List.getElem?_set_ne c] at h
  obtain ⟨w,e,q⟩:=r.at' j x h
  exact ⟨w,by rw [List.getElem?_set_ne c];exact e,q⟩
end
def ER(K:PySem.W.Frag)(mg:Str→Option Value)(φ:Nat→Addr)(n:Nat)(H:Hp)(e:XO)(cls:Value)(dd:Option Addr):Prop:=
 ∃C,mg (Str.ofString e.cls)=some (.ref C)∧cls=.ref C∧(e.JK=[]→dd=none)∧(e.JK≠[]→∃a vs,dd=some a∧H a=some (.xd vs)∧RF K φ n H e.JK vs)
section
variable(K:PySem.W.Frag)(mg:Str→Option Value)(W:WX)(σ:L2.St)
def wp{α β:Type}(R:(Nat→Addr)→Nat→Hp→α→β→Prop)(x:Res α)(φ:Nat→Addr)(lh:LH)(H:Hp)(Q:β→Hp→Prop):Prop:=
 match x with
 | .ok d Ae=>∀φ' v H',Po K mg φ lh H φ' Ae H'→R φ' Ae.length H' d v→Q v H'
 | .exc e Ae=>∀φ' cls dd H',Po K mg φ lh H φ' Ae H'→ER K mg φ' Ae.length H' e cls dd→W cls dd σ H'
 | .bad=>False
end
abbrev Jw{α:Type}:(Nat→Addr)→Nat→Hp→α→α→Prop:=fun _ _ _ a b=>a=b
section
variable(K:PySem.W.Frag)(mg:Str→Option Value)(W:WX)
def rd{α β:Type}(R:(Nat→Addr)→Nat→Hp→α→β→Prop)(m:M α):L2.St→Hp→(β→Hp→Prop)→Prop:=fun σ H Q=>
 ∃φ env lh,HR K mg φ lh H∧RS K φ lh.length H env σ∧wp K mg W σ R (m env lh) φ lh H Q
abbrev Oe(m:M D):TE:=rd K mg W (RD K) m
abbrev K8(m:M Bool):TT:=rd K mg W Jw m
abbrev bR(m:M (List D)):TA:=rd K mg W (Aj K) m
def Im(m:MS):TS:=fun D σ H=>∃φ env lh,HR K mg φ lh H∧RS K φ lh.length H env σ∧match m env lh with
 | .next env' Ae=>∀φ' σ' H',Po K mg φ lh H φ' Ae H'→RS K φ' Ae.length H' env' σ'→D.nx σ' H'
 | .ret d Ae=>∀φ' v H',Po K mg φ lh H φ' Ae H'→RD K φ' Ae.length H' d v→D.rt v H'
 | .brk env' Ae=>∀φ' σ' H',Po K mg φ lh H φ' Ae H'→RS K φ' Ae.length H' env' σ'→D.bk σ' H'
 | .cnt env' Ae=>∀φ' σ' H',Po K mg φ lh H φ' Ae H'→RS K φ' Ae.length H' env' σ'→D.ct σ' H'
 | .exc e env' Ae=>∀φ' cls dd σ' H',Po K mg φ lh H φ' Ae H'→ER K mg φ' Ae.length H' e cls dd→RS K φ' Ae.length H' env' σ'→W cls dd σ' H'
 | .bad=>False
end
section
variable{K:PySem.W.Frag}{mg:Str→Option Value}{W:WX}{σ:L2.St}{φ φ':Nat→Addr}{lh Ae:LH}{H H':Hp}
theorem Av{α β:Type}{R:(Nat→Addr)→Nat→Hp→α→β→Prop}{d:α}{v:β}{Q:β→Hp→Prop}(h:wp K mg W σ R (.ok d Ae) φ lh H Q)(p:Po K mg φ lh H φ' Ae H')(r:R φ' Ae.length H' d v):Q v H':=h φ' v H' p r
theorem wp_step{α β γ δ:Type}{R:(Nat→Addr)→Nat→Hp→α→β→Prop}{R':(Nat→Addr)→Nat→Hp→γ→δ→Prop}{x:Res α}{f:α→LH→Res γ}{Q:δ→Hp→Prop}{G:β→Hp→Prop}
  (h:wp K mg W σ R' (x.bind f) φ lh H Q) (hg:∀d Ad φ1 v H1,Po K mg φ lh H φ1 Ad H1→R φ1 Ad.length H1 d v→wp K mg W σ R' (f d Ad) φ1 Ad H1 Q→G v H1):wp K mg W σ R x φ lh H G:=by
 cases x with
 |ok d Ad=>
  intro φ1 v H1 p r
  refine hg d Ad φ1 v H1 p r ?_
  have h':wp K mg W σ R' (f d Ad) φ lh H Q:=h
  revert h'
  cases f d Ad with
  |ok e Az=>exact fun h' φ2 w H2 p2 r2=>h' φ2 w H2 (p.trans p2) r2
  |exc e Az=>exact fun h' φ2 c dd H2 p2 r2=>h' φ2 c dd H2 (p.trans p2) r2
  |bad=>exact fun h'=>h'
 |exc e Ad=>exact h
 |bad=>exact h
theorem rd_of{α β:Type}{R:(Nat→Addr)→Nat→Hp→α→β→Prop}{m:M α}{Q:β→Hp→Prop}{env:EN}(h1:HR K mg φ lh H)(h2:RS K φ lh.length H env σ)(h:wp K mg W σ R (m env lh) φ lh H Q):rd K mg W R m σ H Q:=⟨φ,env,lh,h1,h2,h⟩
end
theorem Tq{X:Cx}{e:Expr}{t t':TE}(h:PE X e t)(i:∀σ H Q,t' σ H Q→t σ H Q):PE X e t':=⟨fun pins s σ H Q I q=>h.run pins s σ H Q I (i σ H Q q)⟩
theorem au{X:Cx}{e:Expr}{t t':TT}(h:PT X e t)(i:∀σ H Q,t' σ H Q→t σ H Q):PT X e t':=⟨fun pins s σ H Q I q=>h.run pins s σ H Q I (i σ H Q q)⟩
theorem bB{X:Cx}{e:Expr}{t t':TT}(h:PW X e t)(i:∀σ H Q,t' σ H Q→t σ H Q):PW X e t':=⟨fun wh pins s σ H Q I q=>h.run wh pins s σ H Q I (i σ H Q q)⟩
theorem Tg{X:Cx}{e:List Expr}{t t':TA}(h:PA X e t)(i:∀σ H Q,t' σ H Q→t σ H Q):PA X e t':=⟨fun pos pins s σ H Q I q=>h.run pos pins s σ H Q I (i σ H Q q)⟩
theorem psI{X:Cx}{e:Stmt}{t t':TS}(h:PS X e t)(i:∀D σ H,t' D σ H→t D σ H):PS X e t':=⟨fun pins s σ H D I q=>h.run pins s σ H D I (i D σ H q)⟩
theorem Tv{X:Cx}{e:List Stmt}{t t':TS}(h:PSs X e t)(i:∀D σ H,t' D σ H→t D σ H):PSs X e t':=⟨fun pins s σ H D I q=>h.run pins s σ H D I (i D σ H q)⟩
abbrev QE(X:Cx)(W:WX)(e:Expr)(m:M D):Prop:=PE X e (Oe X.K X.mg W m)
abbrev QT(X:Cx)(W:WX)(e:Expr)(m:M Bool):Prop:=PT X e (K8 X.K X.mg W m)
abbrev QW(X:Cx)(W:WX)(e:Expr)(m:M Bool):Prop:=PW X e (K8 X.K X.mg W m)
abbrev QA(X:Cx)(W:WX)(e:List Expr)(m:M (List D)):Prop:=PA X e (bR X.K X.mg W m)
abbrev QS(X:Cx)(W:WX)(e:Stmt)(m:MS):Prop:=PS X e (Im X.K X.mg W m)
abbrev Cp(X:Cx)(W:WX)(e:List Stmt)(m:MS):Prop:=PSs X e (Im X.K X.mg W m)
end HM
namespace HM
open PySem L2
section
variable{K:PySem.W.Frag}{mg:Str→Option Value}{W:WX}{σ:L2.St}{φ φ':Nat→Addr}{lh Ae:LH}{H H':Hp}{n:Nat}
theorem RD.str_inv{s:List Nat}{v:V}(r:RD K φ n H (.str s) v):v=.str ⟨s.toArray⟩:=by cases r;rfl
theorem RD.Fy{xs:List D}{v:V}(r:RD K φ n H (.tup xs) v):∃a vs,v=.ref a∧SqT K H a vs∧Aj K φ n H xs vs:=by
 cases r with
 |tup h q=>exact ⟨_,_,rfl,h,q⟩
theorem RD.Ft{i:Nat}{v:V}(r:RD K φ n H (.ref i) v):v=.ref (φ i)∧i<n:=by
 cases r with
 |ref h=>exact ⟨rfl,h⟩
theorem RD.La{ns:List Int}{v:V}(r:RD K φ n H (.Ar ns) v):∃a,v=.ref a∧SqL K H a (ns.map V.int):=by
 cases r with
 |Ar h=>
  rcases h with ⟨o,h⟩|h
  ·exact ⟨_,rfl,.inl (.inr ⟨o,h⟩)⟩
  ·exact ⟨_,rfl,.inr h⟩
theorem HR.lst(h:HR K mg φ lh H){i:Nat}{xs:List D}(e:lh[i]? =some (.lst xs)):∃vs,H (φ i)=some (.lst vs)∧Aj K φ lh.length H xs vs:=h.obj i _ e
theorem CK{α:Type}{l:List α}{i:Nat}{x:α}(h:l[i]? =some x):i<l.length:=(List.getElem?_eq_some_iff.mp h).1
end
def Aa(i:Nat):M D:=fun e h=>match e[i]? with
 |some (some d)=>.ok d h
 |_=>.bad
def mC(d:D):M D:=fun _ h=>.ok d h
def Af(f:D→D→LH→Res D)(a b:M D):M D:=fun e h=>(a e h).bind fun x h1=>(b e h1).bind fun y h2=>f x y h2
def Du(f:D→LH→Res D)(a:M D):M D:=fun e h=>(a e h).bind fun x h1=>f x h1
def Ag:M (List D):=fun _ h=>.ok [] h
def Ab(a:M D)(r:M (List D)):M (List D):=fun e h=>(a e h).bind fun x h1=>(r e h1).bind fun xs h2=>.ok (x::xs) h2
def Am(f:MF)(a:M (List D)):M D:=fun e h=>(a e h).bind fun xs h1=>f xs h1
def Bc(a:M D):M Bool:=fun e h=>(a e h).bind fun x h1=>match x with
 | .bl b=>.ok b h1
 |_=>.bad
def JZ(a b:M Bool):M Bool:=fun e h=>(a e h).bind fun x h1=>if x then b e h1 else .ok false h1
def CN(a b:M Bool):M Bool:=fun e h=>(a e h).bind fun x h1=>if x then .ok true h1 else b e h1
def Bs(a:M Bool):M Bool:=fun e h=>(a e h).bind fun x h1=>.ok (!x) h1
def Fe(a b:M D):M D:=fun e h=>(a e h).bind fun x h1=>match x with
 | .bl true=>b e h1
 | .bl false=>.ok (.bl false) h1
 |_=>.bad
def JX(a b:M D):M D:=fun e h=>(a e h).bind fun x h1=>match x with
 | .bl true=>.ok (.bl true) h1
 | .bl false=>b e h1
 |_=>.bad
def Ih(a:M D):M D:=fun e h=>(a e h).bind fun x h1=>match x with
 | .bl b=>.ok (.bl (!b)) h1
 |_=>.bad
def Zv(c:M Bool)(a b:M D):M D:=fun e h=>(c e h).bind fun x h1=>if x then a e h1 else b e h1
def BW:MS:=fun e h=>.next e h
def Ak(a b:MS):MS:=fun e h=>match a e h with
 | .next e1 h1=>b e1 h1
 | .ret d h1=>.ret d h1
 | .brk e1 h1=>.brk e1 h1
 | .cnt e1 h1=>.cnt e1 h1
 | .exc x e1 h1=>.exc x e1 h1
 | .bad=>.bad
def Ay{α:Type}(r:Res α)(e:EN)(f:α→LH→B_):B_:=match r with
 | .ok a h=>f a h
 | .exc x h=>.exc x e h
 | .bad=>.bad
def BJ(c:M Bool)(a b:MS):MS:=fun e h=>Ay (c e h) e fun x h1=>if x then a e h1 else b e h1
def BL(i:Nat)(a:M D):MS:=fun e h=>Ay (a e h) e fun x h1=>.next (e.set i (some x)) h1
def Aq(a:M D):MS:=fun e h=>Ay (a e h) e fun x h1=>.ret x h1
def Uh:MS:=fun _ h=>.ret .non h
def HX(a:M D):MS:=fun e h=>Ay (a e h) e fun _ h1=>.next e h1
def cA:MS:=fun e h=>.brk e h
def cC:MS:=fun e h=>.cnt e h
section
variable{X:Cx}{W:WX}{e a b c:Expr}{es:List Expr}{pos:Pos}{ma mb:M D}{mc ta tb:M Bool}{Bl:M (List D)}
theorem Ah(i:Nat){x:Str}{pos:Pos}(hN:X.N[i]? =some x:=by rfl)(hv:Vis X.env.scope x:=by first|exact Or.inl rfl|exact Or.inr (Or.inl rfl)|exact Or.inr (Or.inr rfl))(hd:(x==("__debug__":Str))=false:=by decide)
  (hcd:(x==("__classdict__":Str))=false:=by decide):QE X W (.Name x pos) (Aa i):=by
 refine Tq (pe_var hN hv hd hcd) fun σ H Q ⟨φ,env,lh,h1,h2,h⟩=>?_
 unfold Aa at h
 split at h
 ·rename_i d e
  obtain ⟨v,ev,r⟩:=h2.at' i d e
  exact ⟨v,ev,Av h (.refl h1) r⟩
 ·exact h.elim
theorem Bt{t:TE}{m:M D}(h:PE X e t)(i:∀σ φ env lh H Q,HR X.K X.mg φ lh H→RS X.K φ lh.length H env σ→wp X.K X.mg W σ (RD X.K) (m env lh) φ lh H Q→t σ H Q):QE X W e m:=
 Tq h fun σ H Q ⟨φ,env,lh,h1,h2,q⟩=>i σ φ env lh H Q h1 h2 q
theorem Ax{i:Int}{j pos}:QE X W (.Constant (.int i) j pos) (mC (.int i)):=Bt pe_int fun σ φ env lh H Q h1 h2 q=>Av q (.refl h1) (.int i)
theorem Ez{b:Bool}{j pos}:QE X W (.Constant (.bool b) j pos) (mC (.bl b)):=Bt pe_bl fun σ φ env lh H Q h1 h2 q=>Av q (.refl h1) (.bl b)
theorem VG(x:Str):(⟨x.cps.toList.toArray⟩:Str)=x:=by cases x;simp
def S(s:String):D:=.str (Str.ofString s).cps.toList
theorem Ef{x:String}{j pos}:QE X W (.Constant (.str (Str.ofString x)) j pos) (mC (S x)):=Bt pe_str fun σ φ env lh H Q h1 h2 q=>by
 have r:RD X.K φ lh.length H (S x) (.str (Str.ofString x)):=by
  have:=RD.str (K:=X.K) (φ:=φ) (n:=lh.length) (H:=H) (Str.ofString x).cps.toList
  rw [VG] at this
  exact this
 exact Av q (.refl h1) r
theorem T5{x:Str}{d:D}{v:V}{u:Value}{pos:Pos}(hg:Gl X x)(hm:X.mg x=some u)(r:RelV v u)(hd:∀φ n H,RD X.K φ n H d v)(hdb:(x==("__debug__":Str))=false:=by decide):QE X W (.Name x pos) (mC d):=
 Bt (pe_glob hg hm r hdb) fun σ φ env lh H Q h1 h2 q=>Av q (.refl h1) (hd _ _ _)
def Df(X:Cx)(g:Value→Value→Sem Value)(f:D→D→LH→Res D):Prop:=
 ∃r:R2,OpR X g r∧∀W σ φ lh H x y v w Q,HR X.K X.mg φ lh H→RD X.K φ lh.length H x v→RD X.K φ lh.length H y w→wp X.K X.mg W σ (RD X.K) (f x y lh) φ lh H Q→r v w H Q
theorem CP{op:Operator}{f:D→D→LH→Res D}(ho:Df X (binaryOp op) f)(ha:QE X W a ma)(hb:QE X W b mb):QE X W (.BinOp a op b pos) (Af f ma mb):=by
 obtain ⟨r,h,k⟩:=ho
 refine Bt (pe_op h ha hb) fun σ φ env lh H Q h1 h2 q=>?_
 refine rd_of h1 h2 (wp_step q fun x Ad φ1 v H1 p1 r1 q1=>?_)
 refine rd_of p1.hr (h2.up p1) (wp_step q1 fun y Az φ2 w H2 p2 r2 q2=>?_)
 exact k W σ φ2 Az H2 x y v w Q p2.hr (r1.up p2) r2 q2
theorem bJ{op:CmpOp}{f:D→D→LH→Res D}(ho:Df X (compareOp op) f)(ha:QE X W a ma)(hb:QE X W b mb)(hm:behindInMarks op b=false):QE X W (.Compare a [op] [b] pos) (Af f ma mb):=by
 obtain ⟨r,h,k⟩:=ho
 refine Bt (pe_cmpR h ha hb hm) fun σ φ env lh H Q h1 h2 q=>?_
 refine rd_of h1 h2 (wp_step q fun x Ad φ1 v H1 p1 r1 q1=>?_)
 refine rd_of p1.hr (h2.up p1) (wp_step q1 fun y Az φ2 w H2 p2 r2 q2=>?_)
 exact k W σ φ2 Az H2 x y v w Q p2.hr (r1.up p2) r2 q2
def Zq(f g:D→D→LH→Res D)(a b c:M D):M D:=fun e h=>(a e h).bind fun x h1=>(b e h1).bind fun y h2=>(f x y h2).bind fun z h3=>match z with
 | .bl true=>(c e h3).bind fun w h4=>g y w h4
 | .bl false=>.ok (.bl false) h3
 |_=>.bad
theorem Ba:QA X W [] Ag:=Tg pa_nil fun σ H Q ⟨φ,env,lh,h1,h2,q⟩=>Av q (.refl h1) .nil
theorem Ai(ha:QE X W e ma)(hr:QA X W es Bl)(hs:starEach (e::es) X.env=(false,eval e X.env)::starEach es X.env:=by rfl):QA X W (e::es) (Ab ma Bl):=by
 refine Tg (pa_cons ha hr hs) fun σ H Q ⟨φ,env,lh,h1,h2,q⟩=>?_
 refine rd_of h1 h2 (wp_step q fun x Ad φ1 v H1 p1 r1 q1=>?_)
 refine rd_of p1.hr (h2.up p1) (wp_step q1 fun xs Az φ2 vs H2 p2 r2 q2=>?_)
 exact Av q2 (.refl p2.hr) (.cons (r1.up p2) r2)
def Hh(X:Cx)(g:Value)(f:MF):Prop:=
 ∃r:List V→Hp→VK→Prop,CallR X g r∧∀W σ φ lh H xs vs Q,HR X.K X.mg φ lh H→Aj X.K φ lh.length H xs vs→wp X.K X.mg W σ (RD X.K) (f xs lh) φ lh H Q→r vs H Q
theorem bG{x:Str}{id:String}{f:MF}{p:Pos}(ho:Hh X (.builtin id) f)(hg:Gl X x)(hm:X.mg x=none)(hv:bootBuiltins x=some (.builtin id))(ha:QA X W (e::es) Bl)(hn:x≠"__name__":=by decide)(hdb:(x==("__debug__":Str))=false:=by decide)
  (he:starEach (e::es) X.env=(false,eval e X.env)::starEach es X.env:=by rfl) (hpl:(backTo pos (starEach es X.env)).any (·.1)=false:=by rfl):QE X W (.Call (.Name x p) (e::es) [] pos) (Am f Bl):=by
 obtain ⟨r,h,k⟩:=ho
 refine Bt (pe_callB h hg hm hv ha hn hdb he hpl) fun σ φ env lh H Q h1 h2 q=>?_
 refine rd_of h1 h2 (wp_step q fun xs Ad φ1 vs H1 p1 r1 q1=>?_)
 exact k W σ φ1 Ad H1 xs vs Q p1.hr r1 q1
theorem Kw{x:Str}{T:String}{f:MF}{p:Pos}(ho:Hh X (.type T) f)(hg:Gl X x)(hm:X.mg x=none)(hv:bootBuiltins x=some (.type T))(ha:QA X W (e::es) Bl)(hn:x≠"__name__":=by decide)(hdb:(x==("__debug__":Str))=false:=by decide)
  (he:starEach (e::es) X.env=(false,eval e X.env)::starEach es X.env:=by rfl) (hpl:(backTo pos (starEach es X.env)).any (·.1)=false:=by rfl):QE X W (.Call (.Name x p) (e::es) [] pos) (Am f Bl):=by
 obtain ⟨r,h,k⟩:=ho
 refine Bt (pe_callTy h hg hm hv ha hn hdb he hpl) fun σ φ env lh H Q h1 h2 q=>?_
 refine rd_of h1 h2 (wp_step q fun xs Ad φ1 vs H1 p1 r1 q1=>?_)
 exact k W σ φ1 Ad H1 xs vs Q p1.hr r1 q1
theorem Oa{t:TT}{m:M Bool}(h:PT X e t)(i:∀σ φ env lh H Q,HR X.K X.mg φ lh H→RS X.K φ lh.length H env σ→wp X.K X.mg W σ Jw (m env lh) φ lh H Q→t σ H Q):QT X W e m:=
 au h fun σ H Q ⟨φ,env,lh,h1,h2,q⟩=>i σ φ env lh H Q h1 h2 q
theorem fO{σ:L2.St}{φ:Nat→Addr}{env:EN}{lh:LH}{H:Hp}{Q:Bool→Hp→Prop}(h1:HR X.K X.mg φ lh H)(h2:RS X.K φ lh.length H env σ)(q:wp X.K X.mg W σ Jw (Bc ma env lh) φ lh H Q):
  Oe X.K X.mg W ma σ H fun x H1=>∃k,x=.bl k∧Q k H1:=by
 refine rd_of h1 h2 (wp_step q fun x Ad φ1 v H1 p1 r1 q1=>?_)
 cases x with
 |bl b=>
  cases r1
  exact ⟨b,rfl,Av q1 (.refl p1.hr) rfl⟩
 |_=>exact q1.elim
theorem Cj{op:CmpOp}{f:D→D→LH→Res D}(ho:Df X (compareOp op) f)(ha:QE X W a ma)(hb:QE X W b mb)(hm:behindInMarks op b=false):QT X W (.Compare a [op] [b] pos) (Bc (Af f ma mb)):=by
 obtain ⟨r,h,k⟩:=ho
 refine Oa (pt_cmpR h ha hb hm) fun σ φ env lh H Q h1 h2 q=>?_
 have q':=fO (ma:=Af f ma mb) h1 h2 q
 obtain ⟨φ0,env0,j9,h10,h20,q0⟩:=q'
 refine rd_of h10 h20 (wp_step q0 fun x Ad φ1 v H1 p1 r1 q1=>?_)
 refine rd_of p1.hr (h20.up p1) (wp_step q1 fun y Az φ2 w H2 p2 r2 q2=>?_)
 exact k W σ φ2 Az H2 x y v w _ p2.hr (r1.up p2) r2 q2
theorem K7(h:QT X W e ta):QT X W (.UnaryOp .Not e pos) (Bs ta):=by
 refine Oa (pt_not h) fun σ φ env lh H Q h1 h2 q=>?_
 refine rd_of h1 h2 (wp_step q fun x Ad φ1 v H1 p1 r1 q1=>?_)
 cases r1
 exact Av q1 (.refl p1.hr) rfl
theorem bM{t:TT}{m:M Bool}(h:PW X e t)(i:∀σ φ env lh H Q,HR X.K X.mg φ lh H→RS X.K φ lh.length H env σ→wp X.K X.mg W σ Jw (m env lh) φ lh H Q→t σ H Q):QW X W e m:=
 bB h fun σ H Q ⟨φ,env,lh,h1,h2,q⟩=>i σ φ env lh H Q h1 h2 q
variable{rest:List Expr}
theorem Od(ha:QT X W a ta):QW X W (.BoolOp .Or [a] pos) ta:=pw_or1 ha
theorem Je(ha:QT X W a ta)(hb:QW X W (.BoolOp .Or (b::rest) pos) tb):QW X W (.BoolOp .Or (a::b::rest) pos) (CN ta tb):=by
 refine bM (pw_or ha hb) fun σ φ env lh H Q h1 h2 q=>?_
 refine rd_of h1 h2 (wp_step q fun x Ad φ1 v H1 p1 r1 q1=>?_)
 cases r1
 cases x with
 |true=>exact Av q1 (.refl p1.hr) rfl
 |false=>exact rd_of p1.hr (h2.up p1) q1
theorem Oc(h:QW X W e ta):QT X W e ta:=PW.pt h
variable{st:Stmt}{sts:List Stmt}{m m1 m2:MS}
def wps(K:PySem.W.Frag)(mg:Str→Option Value)(W:WX)(x:B_)(φ:Nat→Addr)(lh:LH)(H:Hp)(D:Ends):Prop:=match x with
 | .next env' Ae=>∀φ' σ' H',Po K mg φ lh H φ' Ae H'→RS K φ' Ae.length H' env' σ'→D.nx σ' H'
 | .ret d Ae=>∀φ' v H',Po K mg φ lh H φ' Ae H'→RD K φ' Ae.length H' d v→D.rt v H'
 | .brk env' Ae=>∀φ' σ' H',Po K mg φ lh H φ' Ae H'→RS K φ' Ae.length H' env' σ'→D.bk σ' H'
 | .cnt env' Ae=>∀φ' σ' H',Po K mg φ lh H φ' Ae H'→RS K φ' Ae.length H' env' σ'→D.ct σ' H'
 | .exc e env' Ae=>∀φ' cls dd σ' H',Po K mg φ lh H φ' Ae H'→ER K mg φ' Ae.length H' e cls dd→RS K φ' Ae.length H' env' σ'→W cls dd σ' H'
 | .bad=>False
theorem Ln{K:PySem.W.Frag}{mg:Str→Option Value}{x:B_}{φ φ1:Nat→Addr}{lh Ad:LH}{H H1:Hp}{D:Ends}(p:Po K mg φ lh H φ1 Ad H1)(h:wps K mg W x φ lh H D):wps K mg W x φ1 Ad H1 D:=by
 cases x with
 |next env' Ae=>exact fun φ' σ' H' p' r=>h φ' σ' H' (p.trans p') r
 |ret d Ae=>exact fun φ' σ' H' p' r=>h φ' σ' H' (p.trans p') r
 |brk env' Ae=>exact fun φ' σ' H' p' r=>h φ' σ' H' (p.trans p') r
 |cnt env' Ae=>exact fun φ' σ' H' p' r=>h φ' σ' H' (p.trans p') r
 |exc e env' Ae=>exact fun φ' cls dd σ' H' p' r=>h φ' cls dd σ' H' (p.trans p') r
 |bad=>exact h
theorem G5{α β:Type}{R:(Nat→Addr)→Nat→Hp→α→β→Prop}{x:Res α}{f:α→LH→B_}{φ:Nat→Addr}{env:EN}{lh:LH}{H:Hp}{D:Ends}{σ:L2.St}{G:β→Hp→Prop}(h2:RS X.K φ lh.length H env σ)
  (h:wps X.K X.mg W (Ay x env f) φ lh H D) (hg:∀d Ad φ1 v H1,Po X.K X.mg φ lh H φ1 Ad H1→R φ1 Ad.length H1 d v→wps X.K X.mg W (f d Ad) φ1 Ad H1 D→G v H1):wp X.K X.mg W σ R x φ lh H G:=by
 cases x with
 |ok d Ad=>exact fun φ1 v H1 p r=>hg d Ad φ1 v H1 p r (Ln p h)
 |exc e Ad=>exact fun φ1 cls dd H1 p r=>h φ1 cls dd σ H1 p r (h2.up p)
 |bad=>exact h
theorem CZ:Cp X W [] BW:=Tv pss_nil fun D σ H ⟨φ,env,lh,h1,h2,q⟩=>q φ σ H (.refl h1) h2
theorem BR(h:QS X W st m1)(k:Cp X W sts m2):Cp X W (st::sts) (Ak m1 m2):=by
 refine Tv (pss_cons h k) fun D σ H ⟨φ,env,lh,h1,h2,q⟩=>?_
 refine ⟨φ,env,lh,h1,h2,?_⟩
 have q':wps X.K X.mg W (Ak m1 m2 env lh) φ lh H D:=q
 unfold Ak at q'
 cases e:m1 env lh with
 |next env' Ae=>
  rw [e] at q'
  exact fun φ' σ' H' p r=>⟨φ',env',Ae,p.hr,r,Ln (x:=m2 env' Ae) p q'⟩
 |ret d Ae=>rw [e] at q';exact q'
 |brk d Ae=>rw [e] at q';exact q'
 |cnt d Ae=>rw [e] at q';exact q'
 |exc d _ Ae=>rw [e] at q';exact q'
 |bad=>rw [e] at q';exact q'
theorem BK(h:QS X W st m1):Cp X W [st] m1:=pss_one h
theorem CW(hc:QT X W c mc)(ha:Cp X W sts m1){VL:List Stmt}(hb:Cp X W VL m2):QS X W (.If c sts VL pos) (BJ mc m1 m2):=by
 refine psI (ps_if hc ha hb) fun D σ H ⟨φ,env,lh,h1,h2,q⟩=>?_
 have q':wps X.K X.mg W (BJ mc m1 m2 env lh) φ lh H D:=q
 refine rd_of h1 h2 (G5 h2 q' fun x Ad φ1 v H1 p1 r1 q1=>?_)
 cases r1
 cases x with
 |true=>exact ⟨φ1,env,Ad,p1.hr,h2.up p1,q1⟩
 |false=>exact ⟨φ1,env,Ad,p1.hr,h2.up p1,q1⟩
theorem Cu{i:Nat}{x:Str}{pos':Pos}(he:QE X W e ma)(hN:X.N.Nodup)(hi:X.N[i]? =some x)(hx:Loc X.env.scope x)(hs:swapsWith e (some (.Name x pos')) pos.line X.env=pure false:=by rfl)(hf:X.fn x=true∨X.env.scope.names.lookup x=some .local:=by first|exact .inl rfl|exact .inr rfl|assumption):
  QS X W (.Assign [.Name x pos'] e pos) (BL i ma):=by
 refine psI (ps_set hN hi hx he hs hf) fun D σ H ⟨φ,env,lh,h1,h2,q⟩=>?_
 have q':wps X.K X.mg W (BL i ma env lh) φ lh H D:=q
 exact rd_of h1 h2 (G5 h2 q' fun x Ad φ1 v H1 p1 r1 q1=>q1 φ1 _ H1 (.refl p1.hr) ((h2.up p1).set r1 i))
theorem CQ(he:QE X W e ma):QS X W (.Return (some e) pos) (Aq ma):=by
 refine psI (ps_ret he) fun D σ H ⟨φ,env,lh,h1,h2,q⟩=>?_
 have q':wps X.K X.mg W (Aq ma env lh) φ lh H D:=q
 exact rd_of h1 h2 (G5 h2 q' fun x Ad φ1 v H1 p1 r1 q1=>q1 φ1 _ H1 (.refl p1.hr) r1)
end
end HM
namespace HM
open PySem L2 PySem.Spec PyProof.Rows
def Ck(K:PySem.W.Frag)(mg:Str→Option Value)(f:MF):Sp:=fun vs H Q E=>∃φ lh ds,HR K mg φ lh H∧Aj K φ lh.length H ds vs∧wp K mg (fun c d _ H=>E c d H) [] (RD K) (f ds lh) φ lh H Q
def A_(np nn:Nat)(m:MS):MF:=fun ds lh=>if ds.length=np then (match m (ds.map some++List.replicate (nn-np) none) lh with
 | .next _ h=>.ok .non h
 | .ret d h=>.ok d h
 | .exc x _ h=>.exc x h
 | .brk _ _=>.bad
 | .cnt _ _=>.bad
 | .bad=>.bad) else .bad
structure Cv(P:Program)(w:World)(K:PySem.W.Frag)(mg:Str→Option Value)(base:Heap)(k:Nat)(x:String)(f:MF):Prop where
 ex:∃fa fd ps,mg (Str.ofString x)=some (.ref fa)∧PySem.W.keepIn K (.ref fa)=true∧Binds K fd ps []∧FnOk P w K mg base (L2.CX P w) k fa fd ps (Ck K mg f)
theorem Cv.mono{P:Program}{w:World}{K:PySem.W.Frag}{mg:Str→Option Value}{base:Heap}{k k':Nat}{x:String}{f:MF}(c:Cv P w K mg base k x f)(h:k≤k'):Cv P w K mg base k' x f:=by
 obtain ⟨fa,fd,ps,h1,h2,h3,h4⟩:=c.ex
 exact ⟨fa,fd,ps,h1,h2,h3,h4.mono h⟩
section
variable{X:Cx}{W:WX}{e a b c:Expr}{es:List Expr}{pos:Pos}{ma mb:M D}{mc ta tb:M Bool}{Bl:M (List D)}
theorem E_{k:Nat}{x:String}{f:MF}{p:Pos}(C:Cv X.prog X.w X.K X.mg X.base k x f)(hr:Room k X.A)(tk:Takes X W)(hg:Gl X (Str.ofString x))(ha:QA X W (e::es) Bl)
  (hdb:(Str.ofString x==("__debug__":Str))=false:=by decide) (he:starEach (e::es) X.env=(false,eval e X.env)::starEach es X.env:=by rfl) (hpl:(backTo pos (starEach es X.env)).any (·.1)=false:=by rfl):
  QE X W (.Call (.Name (Str.ofString x) p) (e::es) [] pos) (Am f Bl):=by
 obtain ⟨fa,fd,ps,h1,h2,h3,h4⟩:=C.ex
 refine Bt (pe_callS h4 hr hg h1 h2 h3 (fun σ=>passAt tk σ) ha hdb he hpl) fun σ φ env lh H Q g1 g2 q=>?_
 refine rd_of g1 g2 (wp_step q fun xs Ad φ1 vs H1 p1 r1 q1=>?_)
 exact ⟨φ1,Ad,xs,p1.hr,r1,q1⟩
def Km(f:MF):M D:=fun _ h=>match f [] h with
 | .ok d h1=>.ok d h1
 | .exc _ _=>.bad
 | .bad=>.bad
theorem bF{k:Nat}{x:String}{f:MF}{p:Pos}(C:Cv X.prog X.w X.K X.mg X.base k x f)(hr:Room k X.A)(hg:Gl X (Str.ofString x))
  (hdb:(Str.ofString x==("__debug__":Str))=false:=by decide):QE X W (.Call (.Name (Str.ofString x) p) [] [] pos) (Km f):=by
 obtain ⟨fa,fd,ps,h1,h2,h3,h4⟩:=C.ex
 refine Bt (pe_call0 (E:=fun _ _ _=>False) h4 hr hg h1 h2 h3 .nil passL hdb) fun σ φ env lh H Q g1 g2 q=>?_
 refine ⟨φ,lh,[],g1,.nil,?_⟩
 unfold Km at q
 cases e:f [] lh with
 |ok d h1=>rw [e] at q;exact q
 |exc d h1=>rw [e] at q;exact q.elim
 |bad=>rw [e] at q;exact q.elim
end
theorem aM{P:Program}{w:World}{K:PySem.W.Frag}{mg:Str→Option Value}{base:Heap}{x qual:Str}{st:Stmt}{f:Addr}{fd:FuncData}{N ps:List Str}{k:Nat}{m:MS}(F:Fun K x qual st f fd)(S:FnScope N ps (defScope st))
  (hb:∀(cdv:Value) (A:Around) (outer:List Env) (s:Shared) (H:Hp) (E:XK),Room k (A.deeper (envOfC qual (defScope st) s.heap.objs.size f cdv))→
   Cp (cxOf (L2.CX P w) P w K mg base N qual (defScope st) f cdv A outer s H E) (fun c d _ H=>E c d H) (defBody st) m):
  FnOk P w K mg base (L2.CX P w) (k+1) f fd ps (Ck K mg (A_ ps.length N.length m)):=by
 have key:∀vs H Q E,Ck K mg (A_ ps.length N.length m) vs H Q E→vs.length=ps.length:=by
  rintro vs H Q E ⟨φ,lh,ds,h1,h2,q⟩
  unfold A_ at q
  by_cases c:ds.length=ps.length
  ·rw [←h2.len];exact c
  ·rw [if_neg c] at q
   exact q.elim
 refine F.okX S key fun cdv A outer s H vs Q E hr hsp=>⟨_,hb cdv A outer s H E hr,?_⟩
 have hl:=key _ _ _ _ hsp
 obtain ⟨φ,lh,ds,h1,h2,q⟩:=hsp
 have hd:ds.length=ps.length:=by rw [h2.len];exact hl
 have rs:RS K φ lh.length H (ds.map some++List.replicate (N.length-ps.length) none) (L2.start N vs):=by
  have e1:vs.length=ds.length:=h2.len.symm
  refine ⟨by unfold L2.start;simp [h2.len,hl],fun i d hi=>?_⟩
  have hlt:i<ds.length:=by
   rcases Nat.lt_or_ge i ds.length with c|c
   ·exact c
   ·rw [List.getElem?_append_right (by simpa using c)] at hi
    rw [List.getElem?_replicate] at hi
    split at hi<;>simp at hi
  rw [List.getElem?_append_left (by simpa using hlt)] at hi
  have hi':ds[i]? =some d:=by
   rw [List.getElem?_map] at hi
   cases z:ds[i]? with
   |none=>rw [z] at hi;simp at hi
   |some y=>rw [z] at hi;simp at hi;rw [hi]
  obtain ⟨v,ev,r⟩:=h2.get hi'
  refine ⟨v,?_,r⟩
  show (vs.map some++_)[i]? =_
  rw [List.getElem?_append_left (by simp;omega),List.getElem?_map,ev]
  rfl
 refine ⟨φ,_,lh,h1,rs,?_⟩
 unfold A_ at q
 rw [if_pos hd] at q
 show wps K mg _ (m (ds.map some++List.replicate (N.length-ps.length) none) lh) φ lh H _
 revert q
 cases m (ds.map some++List.replicate (N.length-ps.length) none) lh with
 |next e h=>exact fun q φ' σ' H' p _=>q φ' _ H' p .non
 |ret d h=>exact fun q φ' v H' p r=>q φ' v H' p r
 |exc x e h=>exact fun q φ' cls dd σ' H' p r _=>q φ' cls dd H' p r
 |brk e h=>exact fun q=>q.elim
 |cnt e h=>exact fun q=>q.elim
 |bad=>exact fun q=>q.elim
abbrev IT:=LH→Nat→Option (Option D)
structure Hi(K:PySem.W.Frag)(mg:Str→Option Value)(φ:Nat→Addr)(n:Nat)(H:Hp)(g:IT×Nat)(J:It):Prop where
 stop:∀φ' Ae H',n≤Ae.length→(∀i,i<n→φ' i=φ i)→Ext H H'→HR K mg φ' Ae H'→∀j,g.1 Ae j=some none→J.stop j H'
 go:∀φ' Ae H',n≤Ae.length→(∀i,i<n→φ' i=φ i)→Ext H H'→HR K mg φ' Ae H'→∀j d,g.1 Ae j=some (some d)→J.go j H'∧∀x H'',J.yld j H' x H''→H''=H'∧RD K φ' Ae.length H' d x
abbrev QI(X:Cx)(W:WX)(tg e:Expr)(m:M (IT×Nat)):Prop:=PI X tg e (rd X.K X.mg W (Hi X.K X.mg) m)
def itL(xs:List D):IT:=fun _ j=>some xs[j]?
def HJ(i:Nat):IT:=fun h j=>match h[i]? with
 |some (.lst xs)=>some xs[j]?
 |_=>none
def Dq(a:M (List D)):M (IT×Nat):=fun e h=>(a e h).bind fun d h1=>match d with
 |[.int n]=>if-(2 ^ 62)≤n∧n<2 ^ 62 then .ok (fun _ j=>some (if j<n.toNat then some (.int j) else none),n.toNat) h1 else .bad
 |_=>.bad
section
variable{X:Cx}{W:WX}{tg e:Expr}{es:List Expr}{ma:M D}{Bl:M (List D)}
theorem Ys{K:PySem.W.Frag}{mg:Str→Option Value}{φ:Nat→Addr}{n:Nat}{H:Hp}{a:Addr}{xs:List D}{vs:List V}(h:SqT K H a vs)(r:Aj K φ n H xs vs):Hi K mg φ n H (itL xs,xs.length) (Itt K a):=by
 refine ⟨fun φ' Ae H' hn ag ex hr j hj=>?_,fun φ' Ae H' hn ag ex hr j d hj=>?_⟩
 ·refine ⟨vs,Lf ex h,?_⟩
  have:=List.getElem?_eq_none_iff.mp (Option.some.inj hj)
  rw [←r.len];exact this
 ·have hj':xs[j]? =some d:=Option.some.inj hj
  obtain ⟨v,ev,rv⟩:=r.get hj'
  refine ⟨⟨vs,v,Lf ex h,ev⟩,fun x H'' ⟨e1,y⟩=>⟨e1,?_⟩⟩
  have:=y vs (Lf ex h)
  rw [ev] at this
  cases this
  exact rv.mono hn ag ex
theorem LR{K:PySem.W.Frag}{H H':Hp}{a:Addr}{ns:List Int}(ex:Ext H H')(h:(∃o,H a=some (.frz o (.lst (ns.map V.int))))∨(∃(o:Obj) (its:Array Value) (m:Nat),K.lookup a=some o∧o.cls=.type "list"∧o.dict=none∧o.data=.seq its m∧its.size≤sizeLine∧Vals (ns.map V.int) its.toList)):
  SqL K H' a (ns.map V.int):=by
 rcases h with ⟨o,h⟩|h
 ·exact .inl (.inr ⟨o,ex.frz _ _ _ h⟩)
 ·exact .inr h
theorem Aj.ints{K:PySem.W.Frag}{φ:Nat→Addr}{n:Nat}{H:Hp}:∀ns:List Int,Aj K φ n H (ns.map D.int) (ns.map V.int)
 |[]=>.nil
 |i::ns=>.cons (.int i) (Aj.ints ns)
theorem Yq{K:PySem.W.Frag}{mg:Str→Option Value}{φ:Nat→Addr}{n:Nat}{H:Hp}{a:Addr}{ns:List Int}(h:(∃o,H a=some (.frz o (.lst (ns.map V.int))))∨(∃(o:Obj) (its:Array Value) (m:Nat),K.lookup a=some o∧o.cls=.type "list"∧o.dict=none∧o.data=.seq its m∧its.size≤sizeLine∧Vals (ns.map V.int) its.toList)):Hi K mg φ n H (itL (ns.map D.int),ns.length) (Itl K a):=by
 refine ⟨fun φ' Ae H' hn ag ex hr j hj=>?_,fun φ' Ae H' hn ag ex hr j d hj=>?_⟩
 ·refine ⟨_,LR ex h,?_⟩
  have:=List.getElem?_eq_none_iff.mp (Option.some.inj hj)
  simpa using this
 ·have hj':(ns.map D.int)[j]? =some d:=Option.some.inj hj
  obtain ⟨v,ev,rv⟩:=(Aj.ints (K:=K) (φ:=φ') (n:=Ae.length) (H:=H') ns).get hj'
  refine ⟨⟨_,v,LR ex h,ev⟩,fun x H'' ⟨e1,y⟩=>⟨e1,?_⟩⟩
  have:=y _ (LR ex h)
  rw [ev] at this
  cases this
  exact rv
theorem Yp{K:PySem.W.Frag}{mg:Str→Option Value}{φ:Nat→Addr}{n m:Nat}{H:Hp}{i:Nat}(hi:i<n):Hi K mg φ n H (HJ i,m) (Itl K (φ i)):=by
 refine ⟨fun φ' Ae H' hn ag ex hr j hj=>?_,fun φ' Ae H' hn ag ex hr j d hj=>?_⟩
 ·unfold HJ at hj
  simp only at hj
  cases el:Ae[i]? with
  |none=>rw [el] at hj;cases hj
  |some o=>
   cases o with
   |lst xs=>
    rw [el] at hj
    obtain ⟨vs,hv,r⟩:=hr.lst el
    rw [ag i hi] at hv
    refine ⟨vs,SqL.of hv,?_⟩
    have:=List.getElem?_eq_none_iff.mp (Option.some.inj hj)
    rw [←r.len];exact this
   |_=>rw [el] at hj;cases hj
 ·unfold HJ at hj
  simp only at hj
  cases el:Ae[i]? with
  |none=>rw [el] at hj;cases hj
  |some o=>
   cases o with
   |lst xs=>
    rw [el] at hj
    obtain ⟨vs,hv,r⟩:=hr.lst el
    rw [ag i hi] at hv
    have hj':xs[j]? =some d:=Option.some.inj hj
    obtain ⟨v,ev,rv⟩:=r.get hj'
    refine ⟨⟨vs,v,SqL.of hv,ev⟩,fun x H'' ⟨e1,y⟩=>⟨e1,?_⟩⟩
    have:=y vs (SqL.of hv)
    rw [ev] at this
    cases this
    exact rv
   |_=>rw [el] at hj;cases hj
theorem Aj.chars{K:PySem.W.Frag}{φ:Nat→Addr}{n:Nat}{H:Hp}{s:List Nat}{j:Nat}{d:D}(h:(s.map fun c=>D.str [c])[j]? =some d):∃c,s[j]? =some c∧d=.str [c]:=by
 rw [List.getElem?_map] at h
 cases e:s[j]? with
 |none=>rw [e] at h;cases h
 |some c=>rw [e] at h;exact ⟨c,rfl,(Option.some.inj h).symm⟩
theorem Kz{p pos:Pos}(hg:Gl X "range")(hm:X.mg "range"=none)(ha:QA X W [e] Bl)(hs:starEach [e] X.env=[(false,eval e X.env)]:=by rfl):QI X W tg (.Call (.Name "range" p) [e] [] pos) (Dq Bl):=by
 refine ⟨fun pins s σ H R I ⟨φ,env,lh,h1,h2,q⟩=>(pi_range1 hg hm ha hs).run pins s σ H R I ?_⟩
 refine rd_of h1 h2 (wp_step q fun ds Ad φ1 vs H1 p1 r1 q1=>?_)
 split at q1
 ·rename_i n
  cases r1 with
  |cons r1 rn=>
   cases rn
   cases r1
   by_cases c: -(2 ^ 62)≤n∧n<2 ^ 62
   ·rw [if_pos c] at q1
    refine ⟨n,rfl,c.1,c.2,Av q1 (.refl p1.hr) ?_⟩
    refine ⟨fun φ' Ae H' hn ag ex hr j hj=>?_,fun φ' Ae H' hn ag ex hr j d hj=>?_⟩
    ·simp only [Option.some.injEq] at hj
     split at hj
     ·cases hj
     ·rename_i c2;exact Nat.le_of_not_lt c2
    ·simp only [Option.some.injEq] at hj
     split at hj
     ·rename_i c2
      cases hj
      refine ⟨c2,fun x H'' ⟨e1,e2⟩=>⟨e1,?_⟩⟩
      subst e2
      rw [Int.zero_add]
      exact .int _
     ·cases hj
   ·rw [if_neg c] at q1;exact q1.elim
 ·exact q1.elim
end
inductive TN where
 |nm (i:Nat)
 |tp (is:List Nat)
def Ld:List Nat→List D→EN→Option EN
 |[],[],e=>some e
 |i::is,d::ds,e=>Ld is ds (e.set i (some d))
 |_,_,_=>none
def Fx:TN→D→EN→Option EN
 | .nm i,d,e=>some (e.set i (some d))
 | .tp is,.tup ds,e=>Ld is ds e
 |_,_,_=>none
def NQ:List Nat→TGs
 |[]=>gNil
 |i::is=>gCons (gName i) (NQ is)
def gN(K:PySem.W.Frag):TN→TG
 | .nm i=>gName i
 | .tp is=>gTup K is.length (NQ is)
def O5:TN→List Nat
 | .nm i=>[i]
 | .tp is=>is
def Le:List Nat→List V→L2.St→L2.St
 |i::is,v::vs,σ=>Le is vs (σ.set i (some v))
 |_,_,σ=>σ
section
variable{K:PySem.W.Frag}{mg:Str→Option Value}{φ:Nat→Addr}{n:Nat}{H:Hp}
theorem Rf:∀{is:List Nat} {ds:List D} {vs:List V} {e e':EN} {σ:L2.St} {Q:L2.St→Hp→Prop},Ld is ds e=some e'→RS K φ n H e σ→Aj K φ n H ds vs→(∀σ',σ'=Le is vs σ→RS K φ n H e' σ'→Q σ' H)→NQ is vs σ H Q
 |[],[],_,e,e',σ,Q,h,r,rd,q=>by
  cases rd
  cases h
  exact ⟨rfl,q _ rfl r⟩
 |i::is,d::ds,_,e,e',σ,Q,h,r,rd,q=>by
  cases rd with
  |cons r1 rn=>exact ⟨_,_,rfl,Rf (is:=is) h (r.set r1 i) rn q⟩
 |[],_::_,_,_,_,_,_,h,_,_,_=>by cases h
 |_::_,[],_,_,_,_,_,h,_,_,_=>by cases h
theorem Uw:∀{is:List Nat} {ds:List D} {e e':EN},Ld is ds e=some e'→ds.length=is.length
 |[],[],_,_,_=>rfl
 |i::is,d::ds,e,e',h=>by rw [List.length_cons,List.length_cons,Uw (is:=is) h]
 |[],_::_,_,_,h=>by cases h
 |_::_,[],_,_,h=>by cases h
theorem QV{vs:List Nat}:∀{is:List Nat} {ws:List V} {σ:L2.St},(∀i∈is,i∈vs)→wipe (Le is ws σ) vs=wipe σ vs
 |[],_,σ,_=>by cases ‹List V› <;>rfl
 |i::is,[],σ,_=>rfl
 |i::is,w::ws,σ,h=>by
  show wipe (Le is ws (σ.set i (some w))) vs=_
  rw [QV (is:=is) fun j hj=>h j (List.mem_cons_of_mem _ hj)]
  have hi:=h i (List.mem_cons_self ..)
  clear h
  induction vs with
  |nil=>cases hi
  |cons v vs ih=>
   show (wipe (σ.set i (some w)) vs).set v none=(wipe σ vs).set v none
   by_cases c:i∈vs
   ·rw [ih c]
   ·have e:i=v:=by
     rcases List.mem_cons.mp hi with e|e
     ·exact e
     ·exact absurd e c
    subst e
    clear ih hi
    have out:∀(vs:List Nat) (σ:L2.St),i ∉ vs→wipe (σ.set i (some w)) vs=(wipe σ vs).set i (some w):=by
     intro vs
     induction vs with
     |nil=>intro σ _;rfl
     |cons u us ih=>
      intro σ hu
      show (wipe (σ.set i (some w)) us).set u none=((wipe σ us).set u none).set i (some w)
      rw [ih σ fun z=>hu (List.mem_cons_of_mem _ z),List.set_comm]
      intro z
      exact hu (by rw [z];exact List.mem_cons_self ..)
    rw [out vs σ c,List.set_set]
theorem RP{t:TN}{d:D}{v:V}{e e':EN}{σ:L2.St}{Q:L2.St→Hp→Prop}(h:Fx t d e=some e')(r:RS K φ n H e σ)(rd:RD K φ n H d v)
  (q:∀σ',(∀vs:List Nat,(∀i∈O5 t,i∈vs)→wipe σ' vs=wipe σ vs)→RS K φ n H e' σ'→Q σ' H):gN K t v σ H Q:=by
 cases t with
 |nm i=>
  cases h
  exact q _ (fun vs hv=>QV (is:=[i]) (ws:=[v]) hv) (r.set rd i)
 |tp is=>
  cases d with
  |tup ds=>
   obtain ⟨a,vs,rfl,hq,rs⟩:=rd.Fy
   refine ⟨a,vs,rfl,hq,?_,Rf h r rs fun σ' e1 r'=>q σ' (fun ws hw=>by rw [e1];exact QV hw) r'⟩
   rw [←rs.len];exact Uw h
  |_=>cases h
end
def Dt(g:IT)(t:TN)(body:MS):Nat→Nat→EN→LH→B_
 |n,j,e,h=>match g h j with
  |none=>.bad
  |some none=>.next e h
  |some (some d)=>match n with
   |0=>.bad
   |n+1=>match Fx t d e with
    |none=>.bad
    |some e1=>match body e1 h with
     | .next e2 h2=>Dt g t body n (j+1) e2 h2
     | .cnt e2 h2=>Dt g t body n (j+1) e2 h2
     | .brk e2 h2=>.next e2 h2
     | .ret x h2=>.ret x h2
     | .exc x e2 h2=>.exc x e2 h2
     | .bad=>.bad
def Fv(it:M (IT×Nat))(t:TN)(body:MS):MS:=fun e h=>Ay (it e h) e fun g h1=>Dt g.1 t body g.2 0 e h1
section
variable{X:Cx}{W:WX}{tg iter:Expr}{body:List Stmt}{pos:Pos}{mi:M (IT×Nat)}{t:TN}{mb:MS}
theorem OJ(hp:PassesOwn (model X.prog X.w) X.A X.env X.xe)(hc:X.calm=true)(hi:QI X W tg iter mi)(hg:PG X tg (gN X.K t))(hb:Cp X W body mb)
  (hs:∀x,foldedSetIterable iter X.env x=pure x:=by intro _;rfl):QS X W (.For tg iter body [] pos) (Fv mi t mb):=by
 refine psI (ps_for hp hc hi hg hb hs) fun D σ H ⟨φ,env,lh,h1,h2,q⟩=>?_
 have q':wps X.K X.mg W (Fv mi t mb env lh) φ lh H D:=q
 refine rd_of h1 h2 (G5 h2 q' fun g Ad φ1 J H1 p1 r1 q1=>?_)
 refine ⟨fun i m σ H=>∃φ2 G_ Az,Po X.K X.mg φ1 Ad H1 φ2 Az H∧RS X.K φ2 Az.length H G_ σ∧wps X.K X.mg W (Dt g.1 t mb m i G_ Az) φ2 Az H D,⟨g.2,φ1,env,Ad,.refl p1.hr,h2.up p1,q1⟩,?_⟩
 rintro i m σ2 H2 ⟨φ2,G_,Az,p2,r2,q2⟩
 unfold Dt at q2
 cases eg:g.1 Az i with
 |none=>simp only [eg] at q2;exact q2.elim
 |some od=>
  cases od with
  |none=>
   simp only [eg] at q2
   exact .inl ⟨r1.stop φ2 Az H2 p2.le p2.ag p2.ext p2.hr i eg,q2 φ2 σ2 H2 (.refl p2.hr) r2⟩
  |some d=>
   simp only [eg] at q2
   cases m with
   |zero=>exact q2.elim
   |succ m=>
    simp only at q2
    cases et:Fx t d G_ with
    |none=>simp only [et] at q2;exact q2.elim
    |some e1=>
     simp only [et] at q2
     obtain ⟨hgo,hy⟩:=r1.go φ2 Az H2 p2.le p2.ag p2.ext p2.hr i d eg
     refine .inr ⟨hgo,fun σ' H'=>∃m',m'<m+1∧∃φ2 G_ Az,Po X.K X.mg φ1 Ad H1 φ2 Az H'∧RS X.K φ2 Az.length H' G_ σ'∧wps X.K X.mg W (Dt g.1 t mb m' (i+1) G_ Az) φ2 Az H' D,fun σ' H' n=>n,fun x H' y=>?_⟩
     obtain ⟨e0,rx⟩:=hy x H' y
     subst e0
     refine RP et r2 rx fun σ3 _ r3=>?_
     refine ⟨φ2,e1,Az,p2.hr,r3,?_⟩
     cases em:mb e1 Az with
     |next e2 h2'=>
      simp only [em] at q2
      exact fun φ' σ' H' p r=>⟨m,Nat.lt_succ_self _,φ',e2,h2',p2.trans p,r,Ln p q2⟩
     |cnt e2 h2'=>
      simp only [em] at q2
      exact fun φ' σ' H' p r=>⟨m,Nat.lt_succ_self _,φ',e2,h2',p2.trans p,r,Ln p q2⟩
     |brk e2 h2'=>simp only [em] at q2;exact q2
     |ret e2 h2'=>simp only [em] at q2;exact q2
     |exc x e2 h2'=>simp only [em] at q2;exact q2
     |bad=>simp only [em] at q2;exact q2.elim
def Kl(c:M Bool)(body:MS):Nat→EN→LH→B_
 |n,e,h=>Ay (c e h) e fun b h1=>if b then (match n with
  |0=>.bad
  |n+1=>match body e h1 with
   | .next e2 h2=>Kl c body n e2 h2
   | .cnt e2 h2=>Kl c body n e2 h2
   | .brk e2 h2=>.next e2 h2
   | .ret x h2=>.ret x h2
   | .exc x e2 h2=>.exc x e2 h2
   | .bad=>.bad) else .next e h1
def cJ(fuel:Nat)(c:M Bool)(body:MS):MS:=fun e h=>Kl c body fuel e h
end
def Ja(a:M (List D)):M D:=fun e h=>(a e h).bind fun xs h1=>if xs.length≤16777216 then .ok (.tup xs) h1 else .bad
def Bw(a:M (List D)):M D:=fun e h=>(a e h).bind fun xs h1=>if xs.length≤16777216 then .ok (.ref h1.length) (h1++[.lst xs]) else .bad
section
variable{X:Cx}{W:WX}{es:List Expr}{pos:Pos}{Bl:M (List D)}
theorem HY{n:Nat}(h:n≤16777216):n≤sizeLine:=by rw [sizeLine_eq];exact h
theorem fZ{K:PySem.W.Frag}{mg:Str→Option Value}{W:WX}{σ:L2.St}{φ:Nat→Addr}{lh:LH}{H:Hp}{Q:VK}{u:LO}{o:HO}{p:Addr}(q:wp K mg W σ (RD K) (.ok (.ref lh.length) (lh++[u])) φ lh H Q)(h:HR K mg φ lh H)(hp:H p=none)
  (ho:OA K mg (ext1 φ lh.length p) (lh.length+1) (upd H p o) p u):Q (.ref p) (upd H p o):=by
 have P:=Po.new h hp ho
 have r:RD K (ext1 φ lh.length p) (lh++[u]).length (upd H p o) (.ref lh.length) (.ref (ext1 φ lh.length p lh.length)):=.ref (by simp)
 rw [Hz] at r
 exact Av q P r
theorem QX{K:PySem.W.Frag}{mg:Str→Option Value}{W:WX}{σ:L2.St}{φ:Nat→Addr}{lh:LH}{H:Hp}{Q:VK}{xs:List D}{vs:List V}{p:Addr}(q:wp K mg W σ (RD K) (.ok (.ref lh.length) (lh++[.lst xs])) φ lh H Q)(h:HR K mg φ lh H)(hp:H p=none)
  (r:Aj K φ lh.length H xs vs):Q (.ref p) (upd H p (.lst vs)):=
 fZ q h hp ⟨vs,upd_same,r.mono (Nat.le_succ _) (fun i hi=>Gf hi) (Ext.new hp)⟩
theorem fj{K:PySem.W.Frag}{mg:Str→Option Value}{W:WX}{σ:L2.St}{φ:Nat→Addr}{lh:LH}{H:Hp}{Q:VK}{xs:List D}{vs:List V}{p:Addr}(q:wp K mg W σ (RD K) (.ok (.tup xs) lh) φ lh H Q)(h:HR K mg φ lh H)(hp:H p=none)
  (r:Aj K φ lh.length H xs vs):Q (.ref p) (upd H p (.tup vs)):=by
 have P:Po K mg φ lh H φ lh (upd H p (.tup vs)):=Po.side h hp
 exact Av q P (.tup (SqT.of upd_same) (r.up P))
theorem Ed(h:QA X W es Bl):QE X W (.List es pos) (Bw Bl):=by
 refine Bt (pe_lst h) fun σ φ env lh H Q h1 h2 q=>?_
 refine rd_of h1 h2 (wp_step q fun xs Ad φ1 vs H1 p1 r1 q1=>?_)
 by_cases c:xs.length≤16777216
 ·rw [if_pos c] at q1
  exact ⟨by rw [←r1.len];exact HY c,fun p hp=>QX q1 p1.hr hp r1⟩
 ·rw [if_neg c] at q1;exact q1.elim
end
def Cd(e:EN):List Nat→EN
 |[]=>e
 |v::vs=>(Cd e vs).set v none
def Ii:M Bool:=fun _ h=>.ok true h
def Eu(g:IT)(t:TN)(c:M Bool)(y:M D)(e:EN)(k:Nat):Nat→Nat→LH→Res D
 |n,j,h=>match g h j with
  |none=>.bad
  |some none=>.ok (.ref k) h
  |some (some d)=>match n with
   |0=>.bad
   |n+1=>match Fx t d e with
    |none=>.bad
    |some e1=>match c e1 h with
     | .ok true h2=>(match y e1 h2 with
      | .ok x h3=>(match h3[k]? with
       |some (.lst acc)=>if acc.length<16777216 then Eu g t c y e k n (j+1) (h3.set k (.lst (acc++[x]))) else .bad
       |_=>.bad)
      |_=>.bad)
     | .ok false h2=>Eu g t c y e k n (j+1) h2
     |_=>.bad
def Ig(it:M (IT×Nat))(t:TN)(c:M Bool)(y:M D)(vs:List Nat):M D:=fun e h=>(it e h).bind fun g h1=>Eu g.1 t c y (Cd e vs) h1.length g.2 0 (h1++[.lst []])
abbrev WN:WX:=fun _ _ _ _=>False
abbrev Qh(X:Cx)(W:WX)(es:List Expr)(m:M Bool):Prop:=PTs X es (K8 X.K X.mg W m)
theorem UG{X:Cx}{W:WX}:Qh X W [] Ii:=⟨fun pins s σ H Q I ⟨φ,env,lh,h1,h2,q⟩=>pts_nil.run pins s σ H Q I (Av q (.refl h1) rfl)⟩
section
variable{K:PySem.W.Frag}{φ:Nat→Addr}{n:Nat}{H:Hp}
theorem RS.wipe{e:EN}{σ:L2.St}(r:RS K φ n H e σ):∀vs:List Nat,RS K φ n H (Cd e vs) (L2.wipe σ vs)
 |[]=>r
 |v::vs=>(r.wipe vs).clear v
end
theorem wp_mono{K:PySem.W.Frag}{mg:Str→Option Value}{W:WX}{σ:L2.St}{α β:Type}{R:(Nat→Addr)→Nat→Hp→α→β→Prop}{x:Res α}{φ φ1:Nat→Addr}{lh Ad:LH}{H H1:Hp}{Q:β→Hp→Prop}(p:Po K mg φ lh H φ1 Ad H1)(h:wp K mg W σ R x φ lh H Q):wp K mg W σ R x φ1 Ad H1 Q:=by
 cases x with
 |ok d Ae=>exact fun φ' v H' p' r=>h φ' v H' (p.trans p') r
 |exc e Ae=>exact fun φ' cls dd H' p' r=>h φ' cls dd H' (p.trans p') r
 |bad=>exact h
theorem Vd(σ:L2.St)(i:Nat):∀vs:List Nat,wipe (σ.set i none) vs=(wipe σ vs).set i none
 |[]=>rfl
 |v::vs=>by
  show (wipe (σ.set i none) vs).set v none=((wipe σ vs).set v none).set i none
  rw [Vd σ i vs]
  by_cases c:i=v
  ·subst c;rfl
  ·rw [List.set_comm _ _ c]
theorem Ve(σ:L2.St):∀vs:List Nat,wipe (wipe σ vs) vs=wipe σ vs
 |[]=>rfl
 |v::vs=>by
  show (wipe ((wipe σ vs).set v none) vs).set v none=(wipe σ vs).set v none
  rw [Vd,Ve σ vs,List.set_set]
section
variable{X:Cx}{W:WX}{elt tg iter:Expr}{ifs:List Expr}{scope:Scope}{own:List (Str×Nat)}{pos:Pos}{mi:M (IT×Nat)}{t:TN}{mc:M Bool}{my:M D}
theorem Zg{vs:List Nat}(ho:∀i∈O5 t,i∈vs){K:PySem.W.Frag}{mg:Str→Option Value}{σ:L2.St}{H:Hp}{Q:VK}{φ:Nat→Addr}{env:EN}{lh:LH}(h1:HR K mg φ lh H)(h2:RS K φ lh.length H env σ)
  (q:wp K mg W σ (RD K) (Ig mi t mc my vs env lh) φ lh H Q):tLc (rd K mg W (Hi K mg) mi) (gN K t) (K8 K mg WN mc) (Oe K mg WN my) vs σ H Q:=by
 refine rd_of h1 h2 (wp_step q fun g Ad φ1 J H1 p1 r1 q1=>?_)
 intro D hD
 have P0:Po K mg φ1 Ad H1 (ext1 φ1 Ad.length D) (Ad++[.lst []]) (upd H1 D (.lst [])):=Po.new p1.hr hD ⟨[],upd_same,.nil⟩
 have hw:RS K φ1 Ad.length H1 (Cd env vs) (wipe σ vs):=(h2.up p1).wipe _
 have hk:Ad.length<(Ad++[LO.lst []]).length:=by simp
 refine ⟨fun i m H=>∃φ2 Az,Po K mg (ext1 φ1 Ad.length D) (Ad++[.lst []]) (upd H1 D (.lst [])) φ2 Az H∧wp K mg W σ (RD K) (Eu g.1 t mc my (Cd env vs) Ad.length m i Az) φ2 Az H Q,⟨g.2,_,_,.refl P0.hr,wp_mono P0 q1⟩,?_⟩
 rintro i m H2 ⟨φ2,Az,p2,q2⟩
 have pp:=P0.trans p2
 have eD:φ2 Ad.length=D:=(p2.ag _ hk).trans Hz
 have hk2:Ad.length<Az.length:=Nat.lt_of_lt_of_le hk p2.le
 unfold Eu at q2
 cases eg:g.1 Az i with
 |none=>simp only [eg] at q2;exact q2.elim
 |some od=>
  cases od with
  |none=>
   simp only [eg] at q2
   refine .inl ⟨r1.stop φ2 Az H2 pp.le pp.ag pp.ext pp.hr i eg,?_⟩
   have:=Av q2 (.refl p2.hr) (.ref hk2)
   rw [eD] at this
   exact this
  |some d=>
   simp only [eg] at q2
   cases m with
   |zero=>exact q2.elim
   |succ m=>
    simp only at q2
    cases et:Fx t d (Cd env vs) with
    |none=>simp only [et] at q2;exact q2.elim
    |some e1=>
     simp only [et] at q2
     obtain ⟨hgo,hy⟩:=r1.go φ2 Az H2 pp.le pp.ag pp.ext pp.hr i d eg
     refine .inr ⟨hgo,fun H'=>∃m',m'<m+1∧∃φ2 Az,Po K mg (ext1 φ1 Ad.length D) (Ad++[.lst []]) (upd H1 D (.lst [])) φ2 Az H'∧wp K mg W σ (RD K) (Eu g.1 t mc my (Cd env vs) Ad.length m' (i+1) Az) φ2 Az H' Q,fun H' n=>n,fun x H' y=>?_⟩
     obtain ⟨e0,rx⟩:=hy x H' y
     subst e0
     refine RP et (hw.up pp) rx fun σ3 ew r3=>⟨(ew vs ho).trans (Ve σ vs),φ2,e1,Az,p2.hr,r3,?_⟩
     cases ec:mc e1 Az with
     |exc e h=>simp only [ec] at q2;exact q2.elim
     |bad=>simp only [ec] at q2;exact q2.elim
     |ok b h3=>
      intro φ3 b' H3 p3 eb
      cases eb
      cases b with
      |false=>
       simp only [ec] at q2
       exact ⟨m,Nat.lt_succ_self _,φ3,h3,p2.trans p3,wp_mono p3 q2⟩
      |true=>
       simp only [ec] at q2
       simp only [if_true]
       refine ⟨φ3,e1,h3,p3.hr,r3.up p3,?_⟩
       cases ey:my e1 h3 with
       |exc e h=>simp only [ey] at q2;exact q2.elim
       |bad=>simp only [ey] at q2;exact q2.elim
       |ok z h4=>
        simp only [ey] at q2
        intro φ4 v H4 p4 rv
        have OD:=p2.trans (p3.trans p4)
        have XF:φ4 Ad.length=D:=(OD.ag _ hk).trans Hz
        have YX:Ad.length<h4.length:=Nat.lt_of_lt_of_le hk OD.le
        cases ek:h4[Ad.length]? with
        |none=>simp only [ek] at q2;exact q2.elim
        |some o=>
         cases o with
         |lst acc=>
          simp only [ek] at q2
          by_cases ca:acc.length<16777216
          ·rw [if_pos ca] at q2
           obtain ⟨ws,hws,rws⟩:=p4.hr.lst ek
           have PP:Po K mg φ4 h4 H4 φ4 (h4.set Ad.length (.lst (acc++[z]))) (upd H4 (φ4 Ad.length) (.lst (ws++[v]))):=
            Po.put p4.hr YX (Wr.lst hws) ⟨_,upd_same,(rws.app (.cons rv .nil)).mono (Nat.le_refl _) (fun _ _=>rfl) (by
             obtain ⟨u,hu,u1,u2⟩:=Wr.lst hws
             exact Ext.put hu u1 u2)⟩
           rw [XF] at hws PP
           refine ⟨ws,hws,by rw [←rws.len,sizeLine_eq];exact ca,m,Nat.lt_succ_self _,φ4,_,OD.trans PP,?_⟩
           exact wp_mono ((p3.trans p4).trans PP) q2
          ·rw [if_neg ca] at q2;exact q2.elim
         |_=>simp only [ek] at q2;exact q2.elim
theorem T8(ho:∀i∈O5 t,i∈own.map (·.2))(hc:X.calm=true)(hN:X.N.Nodup)(hi:QI X W tg iter mi)(ok:BlkOk X.N X.env.scope scope own)
  (hg:∀(s:Shared) (H:Hp) (C:Addr) (cl:List (Str×Addr)) (fp:List Addr),PG (X.blk s H scope (compEnvC scope cl C X.env) fp) tg (gN X.K t)) (ht:∀(s:Shared) (H:Hp) (C:Addr) (cl:List (Str×Addr)) (fp:List Addr),Qh (X.blk s H scope (compEnvC scope cl C X.env) fp) WN ifs mc)
  (he:∀(s:Shared) (H:Hp) (C:Addr) (cl:List (Str×Addr)) (fp:List Addr),QE (X.blk s H scope (compEnvC scope cl C X.env) fp) WN elt my) (hs:∀x,foldedSetIterable iter X.env x=pure x:=by intro _;rfl):
  QE X W (.ListComp elt [⟨tg,iter,ifs,0⟩] scope pos) (Ig mi t mc my (own.map (·.2))):=
 Bt (pe_lc hc hN hi ok hg ht he hs) fun σ φ env lh H Q h1 h2 q=>Zg ho h1 h2 q
end
end HM
namespace HM
open PySem L2 PySem.Spec PyProof.Rows
def Bb:D→D→LH→Res D
 | .int a,.int b,h=>.ok (.int (a+b)) h
 | .str a,.str b,h=>if a.length+b.length≤16777216 then .ok (.str (a++b)) h else .bad
 | .tup a,.tup b,h=>if a.length+b.length≤16777216 then .ok (.tup (a++b)) h else .bad
 | .ref i,.ref j,h=>match h[i]?, h[j]? with
  |some (.lst a),some (.lst b)=>if a.length+b.length≤16777216 then .ok (.ref h.length) (h++[.lst (a++b)]) else .bad
  |_,_=>.bad
 |_,_,_=>.bad
def Ik(a b:Int):Bool:=decide (b.natAbs<2 ^ 63)||decide (a.natAbs.log2+b.natAbs.log2<1000000)
def G8:D→D→LH→Res D
 | .int a,.int b,h=>if Ik a b then .ok (.int (a*b)) h else .bad
 |_,_,_=>.bad
def Hq:D→D→LH→Res D
 | .int a,.int b,h=>if 0<b∧b.natAbs.log2<9000 then .ok (.int (a/b)) h else .bad
 |_,_,_=>.bad
def Hu:D→D→LH→Res D
 | .int a,.int b,h=>if 0<b then .ok (.int (a%b)) h else .bad
 |_,_,_=>.bad
def Hv:D→D→LH→Res D
 | .int a,.int b,h=>if 0≤b∧b≤1000000∧a.natAbs<2 ^ 64 then .ok (.int (a ^ b.toNat)) h else .bad
 |_,_,_=>.bad
def KH:D→D→LH→Res D
 | .int a,.int b,h=>.ok (.bl (decide (a<b))) h
 | .str a,.str b,h=>.ok (.bl (decide (a<b))) h
 |_,_,_=>.bad
def J_:D→D→LH→Res D
 | .int a,.int b,h=>.ok (.bl (decide (b<a))) h
 | .str a,.str b,h=>.ok (.bl (decide (b<a))) h
 |_,_,_=>.bad
def J9:D→D→LH→Res D
 | .int a,.int b,h=>.ok (.bl (decide (b≤a))) h
 | .str a,.str b,h=>.ok (.bl (!decide (a<b))) h
 |_,_,_=>.bad
def EY(d:D):Bool:=match d with
 | .non=>true
 |_=>false
def KC:D→D→LH→Res D
 |a,.non,h=>.ok (.bl (EY a)) h
 |_,_,_=>.bad
def Wn:D→D→LH→Res D
 |a,.non,h=>.ok (.bl (!EY a)) h
 |_,_,_=>.bad
def Eh(d:D)(h:LH):Option (List D):=match d with
 | .tup xs=>some xs
 | .Ar ns=>some (ns.map D.int)
 | .ref i=>match h[i]? with
  |some (.lst xs)=>some xs
  |_=>none
 |_=>none
mutual
def toP:Nat→LH→D→Option PyData
 |0,_,_=>none
 |n+1,h,d=>match d with
  | .non=>some .none
  | .bl b=>some (.bool b)
  | .int i=>some (.int i)
  | .str s=>some (.str ⟨s.toArray⟩)
  | .tup xs=>(Ca n h xs).map PyData.tuple
  | .Ar ns=>(Ca n h (ns.map D.int)).map PyData.list
  | .ref i=>match h[i]? with
   |some (.lst xs)=>(Ca n h xs).map PyData.list
   |_=>none
  | .Cg _=>none
  | .Bv _ _ _=>none
def Ca:Nat→LH→List D→Option (List PyData)
 |0,_,_=>none
 |n+1,h,xs=>match xs with
  |[]=>some []
  |x::xs=>match toP n h x,Ca n h xs with
   |some p,some ps=>some (p::ps)
   |_,_=>none
end
def Hr(fu:Nat)(a b:D)(h:LH):Option Bool:=match a,b with
 | .int a,.int b=>some (decide (a=b))
 | .str a,.str b=>some (decide (a=b))
 | .bl a,.bl b=>some (decide (a=b))
 | .non,.non=>some true
 | .non,.int _=>some false
 | .int _,.non=>some false
 | .non,.bl _=>some false
 | .bl _,.non=>some false
 | .non,.str _=>some false
 | .str _,.non=>some false
 | .int _,.str _=>some false
 | .str _,.int _=>some false
 | .bl _,.str _=>some false
 | .str _,.bl _=>some false
 |a,b=>match toP fu h a,toP fu h b with
  |some p,some q=>if SeqAt.shaped p&&SeqAt.shaped q then some (PyData.eqv p q) else none
  |_,_=>none
def Bm(a b:D)(h:LH):Res D:=match Hr 10000000 a b h with
 |some r=>.ok (.bl r) h
 |none=>.bad
def CT(a b:D)(h:LH):Res D:=match Hr 10000000 a b h with
 |some r=>.ok (.bl (!r)) h
 |none=>.bad
section
variable{K:PySem.W.Frag}{mg:Str→Option Value}{φ:Nat→Addr}{lh:LH}{H:Hp}{n:Nat}
theorem Ow(hr:HR K mg φ lh H){d:D}{v:V}{xs:List D}(r:RD K φ lh.length H d v)(h:Eh d lh=some xs):∃a vs,v=.ref a∧(SqL K H a vs∨SqT K H a vs)∧Aj K φ lh.length H xs vs:=by
 cases d with
 |tup ys=>
  cases h
  obtain ⟨a,vs,e,hq,r⟩:=r.Fy
  exact ⟨a,vs,e,.inr hq,r⟩
 |Ar ns=>
  cases h
  obtain ⟨a,e,hq⟩:=r.La
  exact ⟨a,_,e,.inl hq,Aj.ints ns⟩
 |ref i=>
  obtain ⟨e,hi⟩:=r.Ft
  unfold Eh at h
  simp only at h
  cases el:lh[i]? with
  |none=>rw [el] at h;cases h
  |some o=>
   cases o with
   |lst ys=>
    rw [el] at h
    cases h
    obtain ⟨vs,hv,r⟩:=hr.lst el
    exact ⟨_,vs,e,.inl (SqL.of hv),r⟩
   |_=>rw [el] at h;cases h
 |_=>cases h
mutual
theorem O6(hr:HR K mg φ lh H):∀{k:Nat} {d:D} {v:V} {p:PyData},RD K φ lh.length H d v→toP k lh d=some p→Dp K H v p
 |0,_,_,_,_,h=>by unfold toP at h;cases h
 |k+1,d,v,p,r,h=>by
  unfold toP at h
  cases d with
  |Cg a=>cases h
  |Bv a dx d=>cases h
  |non=>cases h;cases r;exact .non
  |bl b=>cases h;cases r;exact .bl b
  |int b=>cases h;cases r;exact .int b
  |str b=>cases h;cases r;exact .str _
  |tup xs=>
   obtain ⟨a,vs,rfl,hq,rs⟩:=r.Fy
   cases e:Ca k lh xs with
   |none=>simp only [e] at h;cases h
   |some ps=>
    simp only [e] at h
    cases h
    exact .tup hq (Lh hr rs e)
  |Ar ns=>
   obtain ⟨a,rfl,hq⟩:=r.La
   cases e:Ca k lh (ns.map D.int) with
   |none=>simp only [e] at h;cases h
   |some ps=>
    simp only [e] at h
    cases h
    exact .lst hq (Lh hr (Aj.ints ns) e)
  |ref i=>
   obtain ⟨rfl,hi⟩:=r.Ft
   simp only at h
   cases el:lh[i]? with
   |none=>rw [el] at h;cases h
   |some o=>
    cases o with
    |lst ys=>
     rw [el] at h
     obtain ⟨vs,hv,rs⟩:=hr.lst el
     cases e:Ca k lh ys with
     |none=>simp only [e] at h;cases h
     |some ps=>
      simp only [e] at h
      cases h
      exact .lst (SqL.of hv) (Lh hr rs e)
    |_=>rw [el] at h;cases h
theorem Lh(hr:HR K mg φ lh H):∀{k:Nat} {ds:List D} {vs:List V} {ps:List PyData},Aj K φ lh.length H ds vs→Ca k lh ds=some ps→DpAll K H vs ps
 |0,_,_,_,_,h=>by unfold Ca at h;cases h
 |k+1,[],vs,ps,r,h=>by
  unfold Ca at h
  cases h
  cases r
  exact .nil
 |k+1,d::ds,vs,ps,r,h=>by
  unfold Ca at h
  cases r with
  |cons r1 r2=>
   cases e1:toP k lh d with
   |none=>simp only [e1] at h;cases h
   |some p=>
    cases e2:Ca k lh ds with
    |none=>simp only [e1,e2] at h;cases h
    |some ps2=>
     simp only [e1,e2] at h
     cases h
     exact .cons (O6 hr r1 e1) (Lh hr r2 e2)
end
end
section
variable{X:Cx}
theorem eU(a b:List Nat):((⟨a.toArray⟩:Str)++(⟨b.toArray⟩:Str))=⟨(a++b).toArray⟩:=by
 show (⟨a.toArray++b.toArray⟩:Str)=_
 simp
theorem str_len(a:List Nat):(⟨a.toArray⟩:Str).length=a.length:=by
 show a.toArray.size=_
 simp
theorem Gv:Df X (binaryOp .Add) Bb:=by
 refine ⟨_,op_add.or (op_add_str.or (op_catA.or op_cat)),fun W σ φ lh H x y v w Q hr rx ry q=>?_⟩
 unfold Bb at q
 split at q
 ·cases rx;cases ry
  exact .inl ⟨_,_,rfl,rfl,Av q (.refl hr) (.int _)⟩
 ·rename_i a b
  cases rx;cases ry
  split at q
  ·rename_i c
   refine .inr (.inl ⟨_,_,rfl,rfl,by rw [str_len,str_len];exact HY c,?_⟩)
   rw [eU]
   exact Av q (.refl hr) (.str _)
  ·exact q.elim
 ·rename_i a b
  obtain ⟨p,vs,rfl,h1,r1⟩:=rx.Fy
  obtain ⟨p2,vs2,rfl,h2,r2⟩:=ry.Fy
  split at q
  ·rename_i c
   have e1:=r1.len
   have e2:=r2.len
   refine .inr (.inr (.inl ⟨p,p2,vs,vs2,rfl,rfl,h1,h2,HY (by omega),fun e=>?_,fun e e'=>?_,fun e e' p hp=>?_⟩))
   ·have:a=[]:=List.eq_nil_of_length_eq_zero (by rw [e1,e];rfl)
    subst this
    exact Av q (.refl hr) ry
   ·have:b=[]:=List.eq_nil_of_length_eq_zero (by rw [e2,e'];rfl)
    subst this
    rw [List.append_nil] at q
    exact Av q (.refl hr) rx
   ·exact fj q hr hp (r1.app r2)
  ·exact q.elim
 ·rename_i i j
  obtain ⟨rfl,_⟩:=rx.Ft
  obtain ⟨rfl,_⟩:=ry.Ft
  split at q
  ·rename_i a b ea eb
   obtain ⟨vs,hv,r1⟩:=hr.lst ea
   obtain ⟨ws,hw,r2⟩:=hr.lst eb
   split at q
   ·rename_i c
    have e1:=r1.len
    have e2:=r2.len
    exact .inr (.inr (.inr ⟨_,_,vs,ws,rfl,rfl,hv,hw,HY (by omega),fun p hp=>QX q hr hp (r1.app r2)⟩))
   ·exact q.elim
  ·exact q.elim
 ·exact q.elim
theorem TY:Df X (binaryOp .Mult) G8:=by
 refine ⟨_,op_mul.or op_mulW,fun W σ φ lh H x y v w Q hr rx ry q=>?_⟩
 unfold G8 at q
 split at q
 ·rename_i a b
  cases rx;cases ry
  split at q
  ·rename_i c
   unfold Ik at c
   rw [Bool.or_eq_true,decide_eq_true_eq,decide_eq_true_eq] at c
   rcases c with c|c
   ·exact .inl ⟨_,_,rfl,rfl,.inr ⟨by omega,by omega⟩,Av q (.refl hr) (.int _)⟩
   ·exact .inr ⟨_,_,rfl,rfl,c,Av q (.refl hr) (.int _)⟩
  ·exact q.elim
 ·exact q.elim
theorem N8:Df X (binaryOp .FloorDiv) Hq:=by
 refine ⟨_,op_fdivW,fun W σ φ lh H x y v w Q hr rx ry q=>?_⟩
 unfold Hq at q
 split at q
 ·cases rx;cases ry
  split at q
  ·rename_i c
   exact ⟨_,_,rfl,rfl,c,Av q (.refl hr) (.int _)⟩
  ·exact q.elim
 ·exact q.elim
theorem N_:Df X (binaryOp .Mod) Hu:=by
 refine ⟨_,op_mod,fun W σ φ lh H x y v w Q hr rx ry q=>?_⟩
 unfold Hu at q
 split at q
 ·cases rx;cases ry
  split at q
  ·rename_i c
   exact ⟨_,_,rfl,rfl,c,Av q (.refl hr) (.int _)⟩
  ·exact q.elim
 ·exact q.elim
theorem Tc:Df X (binaryOp .Pow) Hv:=by
 refine ⟨_,op_pow,fun W σ φ lh H x y v w Q hr rx ry q=>?_⟩
 unfold Hv at q
 split at q
 ·cases rx;cases ry
  split at q
  ·rename_i c
   exact ⟨_,_,rfl,rfl,c,Av q (.refl hr) (.int _)⟩
  ·exact q.elim
 ·exact q.elim
theorem aR:Df X (compareOp .Lt) KH:=by
 refine ⟨_,op_lt.or op_lt_str,fun W σ φ lh H x y v w Q hr rx ry q=>?_⟩
 unfold KH at q
 split at q
 ·cases rx;cases ry
  exact .inl ⟨_,_,rfl,rfl,Av q (.refl hr) (.bl _)⟩
 ·cases rx;cases ry
  exact .inr ⟨_,_,rfl,rfl,Av q (.refl hr) (.bl _)⟩
 ·exact q.elim
theorem aQ:Df X (compareOp .Gt) J_:=by
 refine ⟨_,op_gt.or op_gt_str,fun W σ φ lh H x y v w Q hr rx ry q=>?_⟩
 unfold J_ at q
 split at q
 ·cases rx;cases ry
  exact .inl ⟨_,_,rfl,rfl,Av q (.refl hr) (.bl _)⟩
 ·cases rx;cases ry
  exact .inr ⟨_,_,rfl,rfl,Av q (.refl hr) (.bl _)⟩
 ·exact q.elim
theorem aP:Df X (compareOp .GtE) J9:=by
 refine ⟨_,op_ge.or op_ge_str,fun W σ φ lh H x y v w Q hr rx ry q=>?_⟩
 unfold J9 at q
 split at q
 ·cases rx;cases ry
  exact .inl ⟨_,_,rfl,rfl,Av q (.refl hr) (.bl _)⟩
 ·cases rx;cases ry
  exact .inr ⟨_,_,rfl,rfl,Av q (.refl hr) (.bl _)⟩
 ·exact q.elim
theorem str_inj{a b:List Nat}:((⟨a.toArray⟩:Str)=⟨b.toArray⟩)↔a=b:=by
 constructor
 ·intro h
  have:a.toArray=b.toArray:=congrArg Str.cps h
  simpa using this
 ·rintro rfl;rfl
theorem Qu{K:PySem.W.Frag}{mg:Str→Option Value}{φ:Nat→Addr}{lh:LH}{H:Hp}{fu:Nat}{d e:D}{v w:V}{b:Bool}(hr:HR K mg φ lh H)(r:RD K φ lh.length H d v)(s:RD K φ lh.length H e w)(h:Hr fu d e lh=some b):
  (scal v w=true∧decide (v=w)=b)∨∃p q,Dp K H v p∧Dp K H w q∧SeqAt.shaped p=true∧SeqAt.shaped q=true∧PyData.eqv p q=b:=by
 unfold Hr at h
 split at h
 all_goals first
  |(cases r;cases s;cases h;exact .inl ⟨rfl,decide_eq_false (fun z=>nomatch z)⟩)
  |(cases r;cases s;cases h;exact .inl ⟨rfl,decide_eq_true rfl⟩)
  |(cases r;cases s;cases h
    refine .inl ⟨rfl,?_⟩
    rw [decide_eq_decide]
    constructor
    ·intro z
     first
      |(exact V.int.inj z)
      |(exact V.bl.inj z)
      |(exact str_inj.mp (V.str.inj z))
    ·rintro rfl;rfl)
  |skip
 rename_i a b' _ _ _ _ _ _ _ _ _ _ _ _ _ _
 split at h
 ·rename_i p q ep eq
  split at h
  ·rename_i c
   rw [Bool.and_eq_true] at c
   cases h
   exact .inr ⟨p,q,O6 hr r ep,O6 hr s eq,c.1,c.2,rfl⟩
  ·cases h
 ·cases h
theorem Ey(hu:X.A.units+64<cLine):Df X (compareOp .Eq) Bm:=by
 refine ⟨_,op_eq.or (op_eqD hu),fun W σ φ lh H x y v w Q hr rx ry q=>?_⟩
 unfold Bm at q
 split at q
 ·rename_i b e
  have q':=Av q (.refl hr) (.bl b)
  rcases Qu hr rx ry e with ⟨h1,h2⟩|⟨p,p2,h1,h2,h3,h4,h5⟩
  ·exact .inl ⟨h1,by rw [h2];exact q'⟩
  ·exact .inr ⟨p,p2,h1,h2,h3,h4,by rw [h5];exact q'⟩
 ·exact q.elim
theorem Ku(hu:X.A.units+64<cLine):Df X (compareOp .NotEq) CT:=by
 refine ⟨_,op_ne.or (op_neD hu),fun W σ φ lh H x y v w Q hr rx ry q=>?_⟩
 unfold CT at q
 split at q
 ·rename_i b e
  have q':=Av q (.refl hr) (.bl (!b))
  rcases Qu hr rx ry e with ⟨h1,h2⟩|⟨p,p2,h1,h2,h3,h4,h5⟩
  ·exact .inl ⟨h1,by rw [h2];exact q'⟩
  ·exact .inr ⟨p,p2,h1,h2,h3,h4,by rw [h5];exact q'⟩
 ·exact q.elim
end
end HM
namespace HM
open PySem L2 PySem.Spec PyProof.Rows
def Bu:MF:=fun xs h=>match xs with
 |[.str s]=>if s.length≤16777216 then .ok (.int s.length) h else .bad
 |[.ref i]=>match h[i]? with
  |some (.lst ys)=>.ok (.int ys.length) h
  |_=>.bad
 |[.tup ys]=>.ok (.int ys.length) h
 |[.Ar ys]=>.ok (.int ys.length) h
 |_=>.bad
def Ht:MF:=fun xs h=>match xs with
 |[.int i]=>.ok (.int i) h
 |[.bl b]=>.ok (.int (if b then 1 else 0)) h
 |_=>.bad
def Dk(i:Int):List Nat:=(Str.ofString (toString i)).cps.toList
def Q6:MF:=fun xs h=>match xs with
 |[.int i]=>if i.natAbs.log2<1920 then .ok (.str (Dk i)) h else .bad
 |_=>.bad
def dList:MF:=fun xs h=>match xs with
 |[d]=>match Eh d h with
  |some ys=>.ok (.ref h.length) (h++[.lst ys])
  |none=>.bad
 |_=>.bad
inductive BT where
 |str|int|bool|list|tuple|dict|none
 deriving DecidableEq
def BX(d:D)(h:LH):Option BT:=match d with
 | .non=>some .none
 | .bl _=>some .bool
 | .int _=>some .int
 | .str _=>some .str
 | .tup _=>some .tuple
 | .Ar _=>some .list
 | .ref i=>match h[i]? with
  |some (.lst _)=>some .list
  |some (.dK _)=>some .dict
  |some (.dT _)=>some .dict
  |_=>Option.none
 | .Cg _=>Option.none
 | .Bv _ _ _=>Option.none
def isB(a b:BT):Bool:=match a,b with
 | .bool,.int=>true
 |a,b=>decide (a=b)
def Bq(b:BT)(a:M D):M D:=fun e h=>(a e h).bind fun d h1=>match BX d h1 with
 |some t=>.ok (.bl (isB t b)) h1
 |Option.none=>.bad
def CG:BT→String
 | .str=>"str"| .int=>"int"| .bool=>"bool"| .list=>"list"| .tuple=>"tuple"| .dict=>"dict"| .none=>"NoneType"
section
variable{X:Cx}{W:WX}{e:Expr}{ma:M D}
theorem Ms{g:Value}{f:MF}{r:List V→Hp→VK→Prop}(h:CallR X g r)(k:∀W σ φ lh H xs vs Q,HR X.K X.mg φ lh H→Aj X.K φ lh.length H xs vs→wp X.K X.mg W σ (RD X.K) (f xs lh) φ lh H Q→r vs H Q):Hh X g f:=⟨r,h,k⟩
theorem Aj.one{K:PySem.W.Frag}{φ:Nat→Addr}{n:Nat}{H:Hp}{d:D}{vs:List V}(r:Aj K φ n H [d] vs):∃v,vs=[v]∧RD K φ n H d v:=by
 cases r with
 |cons r rn=>cases rn;exact ⟨_,rfl,r⟩
theorem Wb:Hh X (.builtin "len") Bu:=by
 refine Ms call_len fun W σ φ lh H xs vs Q hr rs q=>?_
 unfold Bu at q
 split at q
 ·obtain ⟨v,rfl,r⟩:=rs.one
  cases r
  split at q
  ·rename_i s c
   exact ⟨_,_,rfl,⟨by rw [str_len];exact HY c,rfl⟩,by rw [str_len];exact Av q (.refl hr) (.int _)⟩
  ·exact q.elim
 ·obtain ⟨v,rfl,r⟩:=rs.one
  obtain ⟨rfl,hi⟩:=r.Ft
  split at q
  ·rename_i ys ey
   obtain ⟨ws,hw,r2⟩:=hr.lst ey
   exact ⟨_,_,rfl,.inl ⟨_,SqL.of hw,rfl⟩,by rw [←r2.len];exact Av q (.refl hr) (.int _)⟩
  ·exact q.elim
 ·obtain ⟨v,rfl,r⟩:=rs.one
  obtain ⟨a,ws,rfl,hq,r2⟩:=r.Fy
  exact ⟨_,_,rfl,.inr ⟨_,hq,rfl⟩,by rw [←r2.len];exact Av q (.refl hr) (.int _)⟩
 ·obtain ⟨v,rfl,r⟩:=rs.one
  obtain ⟨a,rfl,hq⟩:=r.La
  exact ⟨_,_,rfl,.inl ⟨_,hq,rfl⟩,by rw [List.length_map];exact Av q (.refl hr) (.int _)⟩
 ·exact q.elim
theorem Mx:Hh X (.type "int") Ht:=by
 refine Ms call_int1 fun W σ φ lh H xs vs Q hr rs q=>?_
 unfold Ht at q
 split at q
 ·obtain ⟨v,rfl,r⟩:=rs.one
  cases r
  exact .inl ⟨_,rfl,Av q (.refl hr) (.int _)⟩
 ·obtain ⟨v,rfl,r⟩:=rs.one
  cases r
  exact .inr ⟨_,rfl,Av q (.refl hr) (.int _)⟩
 ·exact q.elim
theorem bU{K:PySem.W.Frag}{φ:Nat→Addr}{n:Nat}{H:Hp}(x:Str):RD K φ n H (.str x.cps.toList) (.str x):=by
 have r:=RD.str (K:=K) (φ:=φ) (n:=n) (H:=H) x.cps.toList
 rw [VG] at r
 exact r
theorem Wc:Hh X (.type "list") dList:=by
 refine Ms call_list_of fun W σ φ lh H xs vs Q hr rs q=>?_
 unfold dList at q
 split at q
 ·obtain ⟨v,rfl,r⟩:=rs.one
  split at q
  ·rename_i ys e
   obtain ⟨a,ws,rfl,hq,r2⟩:=Ow hr r e
   exact ⟨a,ws,rfl,hq,fun l hl=>QX q hr hl r2⟩
  ·exact q.elim
 ·exact q.elim
theorem fV{K:PySem.W.Frag}{mg:Str→Option Value}{φ:Nat→Addr}{lh:LH}{H:Hp}{d:D}{v:V}{t:BT}(hr:HR K mg φ lh H)(r:RD K φ lh.length H d v)(h:BX d lh=some t):TyX K H v (.type (CG t)):=by
 unfold BX at h
 split at h
 ·cases h;cases r;exact .base .non
 ·cases h;cases r;exact .base (.bl _)
 ·cases h;cases r;exact .base (.int _)
 ·cases h;cases r;exact .base (.str _)
 ·cases h
  obtain ⟨a,vs,rfl,hq,_⟩:=r.Fy
  rcases hq with (hq|⟨o,hq⟩)|⟨o,its,n,hk,hc,_⟩
  ·exact .base (.tup hq)
  ·exact .fTuple hq
  ·exact .kTuple hk hc
 ·cases h
  cases r with
  |Ar hs=>
   rcases hs with ⟨o,hs⟩|⟨o,its,m,hk,hc,_⟩
   ·exact .base (.frz hs)
   ·exact .kList hk hc
 ·rename_i i
  obtain ⟨rfl,_⟩:=r.Ft
  split at h
  ·rename_i xs e
   cases h
   obtain ⟨vs,hv,_⟩:=hr.lst e
   exact .base (.lst hv)
  ·rename_i xs e
   cases h
   obtain ⟨vs,hv,_⟩:=hr.obj _ _ e
   exact .base (.dK hv)
  ·rename_i xs e
   cases h
   obtain ⟨vs,hv,_⟩:=hr.obj _ _ e
   exact .base (.dT hv)
  ·cases h
 ·cases h
 ·cases h
theorem ZS(a b:BT)(hb:b≠.none):kitB (CG a) (CG b)=some (isB a b):=by
 cases b<;>first
  |exact absurd rfl hb
  |(cases a<;>decide+kernel)
theorem Ky(b:BT){p p2 pos:Pos}(hb:b≠.none)(he:QE X W e ma)(hg:Gl X "isinstance")(hm:X.mg "isinstance"=none)(hg2:Gl X (Str.ofString (CG b)))(hm2:X.mg (Str.ofString (CG b))=none)
  (hv2:bootBuiltins (Str.ofString (CG b))=some (.type (CG b))) (hn2:Str.ofString (CG b)≠"__name__":=by decide) (JN:(Str.ofString (CG b)==("__debug__":Str))=false:=by decide)
  (hs1:starEach [e,.Name (Str.ofString (CG b)) p2] X.env=(false,eval e X.env)::starEach [.Name (Str.ofString (CG b)) p2] X.env:=by rfl)
  (hs2:starEach [.Name (Str.ofString (CG b)) p2] X.env=(false,eval (.Name (Str.ofString (CG b)) p2) X.env)::starEach [] X.env:=by rfl)
  (hpl:(backTo pos (starEach [.Name (Str.ofString (CG b)) p2] X.env)).any (·.1)=false:=by rfl):
  QE X W (.Call (.Name "isinstance" p) [e,.Name (Str.ofString (CG b)) p2] [] pos) (Bq b ma):=by
 have pb:PE X (.Name (Str.ofString (CG b)) p2) (tC (.ty (CG b))):=pe_bltn hg2 hm2 hv2 rfl hn2 JN
 refine Bt (pe_callB call_isi hg hm (by decide+kernel) (pa_cons he (pa_cons pb pa_nil hs2) hs1) (he:=hs1) (hpl:=hpl)) fun σ φ env lh H Q h1 h2 q=>?_
 refine rd_of h1 h2 (wp_step q fun d Ad φ1 v H1 p1 r1 q1=>?_)
 split at q1
 ·rename_i t et
  exact ⟨v,.ty (CG b),_,_,isB t b,rfl,.ty _,fV p1.hr r1 et,kit_ty (ZS t b hb),Av q1 (.refl p1.hr) (.bl _)⟩
 ·exact q1.elim
end
def BP:D→D→LH→Res D
 | .str s,.int i,h=>if s.length≤16777216 then (match atI s i with
  |some c=>.ok (.str [c]) h
  |none=>.bad) else .bad
 |d,.int i,h=>match Eh d h with
  |some xs=>(match atI xs i with
   |some x=>.ok x h
   |none=>.bad)
  |none=>.bad
 |_,_,_=>.bad
def R9:M (Option Int):=fun _ h=>.ok none h
def Zx(a:M D):M (Option Int):=fun e h=>(a e h).bind fun d h1=>match d with
 | .int i=>.ok (some i) h1
 |_=>.bad
def cutD{α:Type}(xs:List α)(lo hi:Option Int):List α:=(xs.drop (HT.sIx xs.length 0 lo)).take (HT.sIx xs.length xs.length hi-HT.sIx xs.length 0 lo)
def Q5(d:D)(lo hi:Option Int)(h:LH):Res D:=match d with
 | .str s=>if s.length≤16777216 then .ok (.str (cutD s lo hi)) h else .bad
 | .tup xs=>.ok (.tup (cutD xs lo hi)) h
 |d=>match Eh d h with
  |some xs=>.ok (.ref h.length) (h++[.lst (cutD xs lo hi)])
  |none=>.bad
def Zy(a:M D)(lo hi:M (Option Int)):M D:=fun e h=>(a e h).bind fun d h1=>(lo e h1).bind fun l h2=>(hi e h2).bind fun u h3=>Q5 d l u h3
section
variable{X:Cx}{W:WX}{a b:Expr}{pos p2:Pos}{ma mb:M D}{lo hi:Option Expr}{ml mh:M (Option Int)}
theorem Aj.atI{K:PySem.W.Frag}{φ:Nat→Addr}{n:Nat}{H:Hp}{ds:List D}{vs:List V}{i:Int}{d:D}(r:Aj K φ n H ds vs)(h:L2.atI ds i=some d):∃v,L2.atI vs i=some v∧RD K φ n H d v:=by
 unfold L2.atI at h ⊢
 rw [r.len] at h
 cases e:ixN vs.length i with
 |none=>rw [e] at h;cases h
 |some j=>
  rw [e] at h
  exact r.get h
theorem DQ(ha:QE X W a ma)(hb:QE X W b mb)(hs:PlainIx b):QE X W (.Subscript a b pos) (Af BP ma mb):=by
 refine Bt (pe_ix ix_seq ha hb hs) fun σ φ env lh H Q h1 h2 q=>?_
 refine rd_of h1 h2 (wp_step q fun x Ad φ1 v H1 p1 r1 q1=>?_)
 refine rd_of p1.hr (h2.up p1) (wp_step q1 fun y Az φ2 w H2 p2 r2 q2=>?_)
 have r1':=r1.up p2
 unfold BP at q2
 split at q2
 ·cases r1'
  cases r2
  split at q2
  ·rename_i s i c
   split at q2
   ·rename_i ch e
    exact .inr (.inr ⟨_,i,ch,rfl,rfl,by rw [str_len];exact HY c,by simpa using e,Av q2 (.refl p2.hr) (.str [ch])⟩)
   ·exact q2.elim
  ·exact q2.elim
 ·cases r2
  split at q2
  ·rename_i xs e
   obtain ⟨ad,vs,rfl,hq,rs⟩:=Ow p2.hr r1' e
   split at q2
   ·rename_i x e2
    obtain ⟨u,eu,ru⟩:=rs.atI e2
    rcases hq with hq|hq
    ·exact .inl ⟨ad,vs,_,u,rfl,rfl,hq,eu,Av q2 (.refl p2.hr) ru⟩
    ·exact .inr (.inl ⟨ad,vs,_,u,rfl,rfl,hq,eu,Av q2 (.refl p2.hr) ru⟩)
   ·exact q2.elim
  ·exact q2.elim
 ·exact q2.elim
end
end HM
namespace HM
open PySem L2 PySem.Spec PyProof.Rows
abbrev MM:=D→List D→LH→Res D
def Yi(d:D)(h:LH):Bool:=match Eh d h,d with
 |some _,.tup _=>false
 |some _,_=>true
 |none,_=>false
def Nz(ck:D→LH→Bool)(f:MM)(o:M D)(a:M (List D)):M D:=fun e h=>(o e h).bind fun x h1=>if ck x h1 then (a e h1).bind fun xs h2=>f x xs h2 else .bad
def isStr(d:D)(_:LH):Bool:=match d with
 | .str _=>true
 |_=>false
def G3:List D→Option (List (List Nat))
 |[]=>some []
 | .str s::r=>(G3 r).map fun l=>s::l
 |_::_=>none
def Ge:MM:=fun x xs h=>match x,xs with
 | .str a,[d]=>match Eh d h with
  |some ys=>match G3 ys with
   |some ss=>if (ss.map (·.length)).sum+ss.length*a.length≤16777216 then .ok (.str (TL.joinL a ss)) h else .bad
   |none=>.bad
  |none=>.bad
 |_,_=>.bad
section
variable{X:Cx}{W:WX}{o e:Expr}{es:List Expr}{ma mo:M D}{Bl:M (List D)}{apos cpos:Pos}
def Vi(X:Cx)(id:String)(f:MM):Prop:=
 ∃r:V→List V→Hp→VK→Prop,MtR X id r∧∀W σ φ lh H x xs v vs Q,HR X.K X.mg φ lh H→RD X.K φ lh.length H x v→Aj X.K φ lh.length H xs vs→wp X.K X.mg W σ (RD X.K) (f x xs lh) φ lh H Q→r v vs H Q
theorem VJ{K:PySem.W.Frag}{φ:Nat→Addr}{n:Nat}{H:Hp}:∀{ds:List D} {vs:List V} {ss:List (List Nat)},Aj K φ n H ds vs→G3 ds=some ss→vs=(ss.map fun s=>(⟨s.toArray⟩:Str)).map V.str
 |[],_,ss,r,h=>by
  cases r
  cases h
  rfl
 |d::ds,vs,ss,r,h=>by
  cases r with
  |cons r1 r2=>
   cases d with
   |str s=>
    unfold G3 at h
    cases e:G3 ds with
    |none=>rw [e] at h;cases h
    |some l=>
     rw [e] at h
     cases h
     cases r1
     rw [VJ r2 e]
     rfl
   |_=>cases h
theorem tl_mk(s:List Nat):TL.tl ⟨s.toArray⟩=s:=by
 show s.toArray.toList=s
 simp
theorem fB(ss:List (List Nat)):((ss.map fun s=>(⟨s.toArray⟩:Str)).map (·.length)).sum=(ss.map (·.length)).sum:=by
 rw [List.map_map]
 congr 1
theorem Z9:Vi X "str.join" Ge:=by
 refine ⟨_,mt_join,fun W σ φ lh H x xs v vs Q hr rx rs q=>?_⟩
 unfold Ge at q
 split at q
 ·rename_i a d
  cases rx
  obtain ⟨u,rfl,ru⟩:=rs.one
  split at q
  ·rename_i ys e
   obtain ⟨p,ws,rfl,hq,r2⟩:=Ow hr ru e
   split at q
   ·rename_i ss es
    split at q
    ·rename_i c
     have ew:=VJ r2 es
     subst ew
     refine ⟨_,p,ss.map fun s=>(⟨s.toArray⟩:Str),rfl,rfl,hq,?_,?_⟩
     ·rw [fB,List.length_map,str_len];exact c
     ·have ej:Txt.join ⟨a.toArray⟩ (ss.map fun s=>(⟨s.toArray⟩:Str))=⟨(TL.joinL a ss).toArray⟩:=by
       refine TL.ext_tl ?_
       rw [TL.join_eq,TL.tl_join,tl_mk,tl_mk,List.map_map]
       congr 1
       conv=>rhs;rw [←List.map_id ss]
       exact List.map_congr_left fun s _=>tl_mk s
      rw [ej]
      exact Av q (.refl hr) (.str _)
    ·exact q.elim
   ·exact q.elim
  ·exact q.elim
 ·exact q.elim
theorem bK(ho:QE X W o mo)(he:QE X W e ma)(hs:starEach [e] X.env=[(false,eval e X.env)]:=by rfl)(hbase:attributeBase o "join" X.env (eval o X.env)=eval o X.env:=by rfl)(hline:(apos.endLine==cpos.line)=true:=by rfl):
  QE X W (.Call (.Attribute o "join" apos) [e] [] cpos) (Nz isStr Ge mo (Ab ma Ag)):=by
 obtain ⟨r,h,k⟩:=Z9 (X:=X)
 refine Bt (pe_m1 PySem.F.slot_str_join PySem.F.type_str_join h ho he hs hbase hline) fun σ φ env lh H Q h1 h2 q=>?_
 refine rd_of h1 h2 (wp_step q fun x Ad φ1 v H1 p1 r1 q1=>?_)
 split at q1
 ·rename_i c
  have hst:∃a,v=.str a:=by
   cases x with
   |str s=>cases r1;exact ⟨_,rfl⟩
   |_=>cases c
  refine ⟨hst,?_⟩
  have q1':wp X.K X.mg W σ (RD X.K) ((ma env Ad).bind fun y h2=>Ge x [y] h2) φ1 Ad H1 Q:=by
   revert q1
   unfold Ab
   cases ma env Ad with
   |ok y h2=>exact fun z=>z
   |exc y h2=>exact fun z=>z
   |bad=>exact fun z=>z
  refine rd_of p1.hr (h2.up p1) (wp_step q1' fun y Az φ2 w H2 p2 r2 q2=>?_)
  exact k W σ φ2 Az H2 x [y] v [w] Q p2.hr (r1.up p2) (.cons r2 .nil) q2
 ·exact q1.elim
end
def Jh(o i v:D)(h:LH):Option LH:=match o,i with
 | .ref r,.int k=>match h[r]? with
  |some (.lst xs)=>match ixN xs.length k with
   |some j=>some (h.set r (.lst (xs.set j v)))
   |none=>none
  |_=>none
 |_,_=>none
def Jf(o i:M D)(a:M D):MS:=fun e h=>Ay (a e h) e fun v h1=>Ay (o e h1) e fun x h2=>Ay (i e h2) e fun y h3=>match Jh x y v h3 with
 |some h4=>.next e h4
 |none=>.bad
def cI(is:List Nat)(a:M D):MS:=fun e h=>Ay (a e h) e fun v h1=>match Fx (.tp is) v e with
 |some e1=>.next e1 h1
 |none=>.bad
section
variable{X:Cx}{W:WX}{o i e:Expr}{es:List Expr}{mo mi ma:M D}{pos pos2:Pos}
theorem dX{K:PySem.W.Frag}{mg:Str→Option Value}{φ:Nat→Addr}{lh Ae:LH}{H:Hp}{x y z:D}{a b c:V}{Q:Hp→Prop}(hr:HR K mg φ lh H)(rx:RD K φ lh.length H x a)(ry:RD K φ lh.length H y b)(rz:RD K φ lh.length H z c)
  (h:Jh x y z lh=some Ae) (q:∀H',Po K mg φ lh H φ Ae H'→Q H'):rSetL a b c H Q:=by
 unfold Jh at h
 split at h
 ·rename_i r k
  obtain ⟨rfl,hi⟩:=rx.Ft
  cases ry
  split at h
  ·rename_i xs ex
   obtain ⟨ws,hw,rw'⟩:=hr.lst ex
   split at h
   ·rename_i j ej
    cases h
    refine ⟨_,ws,k,j,rfl,rfl,hw,by rw [←rw'.len];exact ej,q _ ?_⟩
    exact Po.put hr hi (Wr.lst hw) ⟨_,upd_same,(rw'.set rz j).mono (Nat.le_refl _) (fun _ _=>rfl) (by
     obtain ⟨w,hw,w1,w2⟩:=Wr.lst hw
     exact Ext.put hw w1 w2)⟩
   ·cases h
  ·cases h
 ·cases h
theorem T9(he:QE X W e ma)(ho:QE X W o mo)(hi:QE X W i mi)
  (ha:∀v,assign (.Subscript o i pos2) X.env v=(do
   let ov←holding [v] (eval o X.env)
   let iv←holding [v,ov] (eval i X.env)
   standAt pos2
   holding [v,ov,iv] (setItem ov iv v)
   release [v,ov,iv] []):=by intro _;rfl)
  (hs:swapsWithSole [.Subscript o i pos2] e pos.line X.env=pure false:=by rfl) (hw:swappedStores [.Subscript o i pos2] e X.env=pure none:=by rfl)
  (h1:(assignEach [.Subscript o i pos2] X.env).map (·.2)=[assign (.Subscript o i pos2) X.env]:=by rfl):QS X W (.Assign [.Subscript o i pos2] e pos) (Jf mo mi ma):=by
 refine psI (ps_asg he (pg_sub ho hi set_list ha) hs hw h1) fun D σ H ⟨φ,env,lh,g1,g2,q⟩=>?_
 have q':wps X.K X.mg W (Jf mo mi ma env lh) φ lh H D:=q
 refine rd_of g1 g2 (G5 g2 q' fun v Ad φ1 vv H1 p1 r1 q1=>?_)
 refine rd_of p1.hr (g2.up p1) (G5 (g2.up p1) q1 fun x Az φ2 vx H2 p2 r2 q2=>?_)
 refine rd_of p2.hr ((g2.up p1).up p2) (G5 ((g2.up p1).up p2) q2 fun y j_ φ3 vy H3 p3 r3 q3=>?_)
 split at q3
 ·rename_i h4 e4
  exact dX p3.hr (r2.up p3) r3 ((r1.up p2).up p3) e4 fun H' P=>q3 φ3 σ H' P ((((g2.up p1).up p2).up p3).up P)
 ·exact q3.elim
end
def Br(d:D)(h:LH):Option Bool:=match d with
 | .non=>some false
 | .bl b=>some b
 | .int i=>some (i != 0)
 | .str s=>if s.length≤16777216 then some ((s.length:Int) != 0) else none
 | .tup xs=>some (!xs.isEmpty)
 | .Ar xs=>some (!xs.isEmpty)
 | .ref i=>match h[i]? with
  |some (.lst xs)=>some (!xs.isEmpty)
  |some (.dK xs)=>some (!xs.isEmpty)
  |_=>none
 | .Cg _=>none
 | .Bv _ _ _=>none
def Bh(a:M D):M Bool:=fun e h=>(a e h).bind fun d h1=>match Br d h1 with
 |some b=>.ok b h1
 |none=>.bad
section
variable{X:Cx}{W:WX}{e:Expr}{ma:M D}
theorem Aj.emp{K:PySem.W.Frag}{φ:Nat→Addr}{n:Nat}{H:Hp}{ds:List D}{vs:List V}(r:Aj K φ n H ds vs):vs.isEmpty=ds.isEmpty:=by
 cases r<;>rfl
theorem C_.emp{K:PySem.W.Frag}{φ:Nat→Addr}{n:Nat}{H:Hp}{ds vs}(r:C_ K φ n H ds vs):vs.isEmpty=ds.isEmpty:=by
 cases r<;>rfl
theorem fM{K:PySem.W.Frag}{mg:Str→Option Value}{φ:Nat→Addr}{lh:LH}{H:Hp}{d:D}{v:V}{b:Bool}(hr:HR K mg φ lh H)(r:RD K φ lh.length H d v)(h:Br d lh=some b):TruV K v H b:=by
 unfold Br at h
 split at h
 ·cases h;cases r;rfl
 ·cases h;cases r;rfl
 ·cases h;cases r;rfl
 ·cases r
  split at h
  ·rename_i c
   cases h
   exact ⟨by rw [str_len];exact HY c,by rw [str_len]⟩
  ·cases h
 ·cases h
  obtain ⟨a,vs,rfl,hq,rs⟩:=r.Fy
  exact .inr (.inl ⟨vs,hq,by rw [rs.emp]⟩)
 ·cases h
  obtain ⟨a,rfl,hq⟩:=r.La
  exact .inl ⟨_,hq,by cases ‹List Int› <;>rfl⟩
 ·obtain ⟨rfl,_⟩:=r.Ft
  split at h
  ·rename_i xs e
   cases h
   obtain ⟨vs,hv,rs⟩:=hr.lst e
   exact .inl ⟨vs,SqL.of hv,by rw [rs.emp]⟩
  ·rename_i xs e
   cases h
   obtain ⟨vs,hv,rs⟩:=hr.obj _ _ e
   exact .inr (.inr ⟨vs,hv,by rw [rs.emp]⟩)
  ·cases h
 ·cases h
 ·cases h
theorem Il(ha:QE X W e ma)(he:∀whole,isTrue e X.env whole=(do let v←whole;standAt e.pos;holding [v] (truthy v)):=by intro _;rfl):QT X W e (Bh ma):=by
 refine Oa (pt_truth ha he) fun σ φ env lh H Q h1 h2 q=>?_
 refine rd_of h1 h2 (wp_step q fun x Ad φ1 v H1 p1 r1 q1=>?_)
 split at q1
 ·rename_i b eb
  exact ⟨b,fM p1.hr r1 eb,Av q1 (.refl p1.hr) rfl⟩
 ·exact q1.elim
end
end HM
namespace HM
open PySem L2 PySem.Spec PyProof.Rows
def Nh(a:M D):M (IT×Nat):=fun e h=>(a e h).bind fun d h1=>match d with
 | .tup xs=>.ok (itL xs,xs.length) h1
 | .Ar ns=>.ok (itL (ns.map D.int),ns.length) h1
 | .str s=>.ok (itL (s.map fun c=>D.str [c]),s.length) h1
 | .ref i=>match h1[i]? with
  |some (.lst xs)=>.ok (HJ i,xs.length) h1
  |_=>.bad
 |_=>.bad
section
variable{X:Cx}{W:WX}{tg l:Expr}{ma:M D}
theorem Yr{K:PySem.W.Frag}{mg:Str→Option Value}{φ:Nat→Addr}{n:Nat}{H:Hp}(s:List Nat):Hi K mg φ n H (itL (s.map fun c=>D.str [c]),s.length) (Its ⟨s.toArray⟩):=by
 refine ⟨fun φ' Ae H' hn ag ex hr j hj=>?_,fun φ' Ae H' hn ag ex hr j d hj=>?_⟩
 ·have:=List.getElem?_eq_none_iff.mp (Option.some.inj hj)
  show s.toArray.size≤j
  simpa using this
 ·obtain ⟨c,ec,rfl⟩:=Aj.chars (K:=K) (φ:=φ) (n:=0) (H:=H) (Option.some.inj hj)
  have hlt:j<s.toArray.size:=by
   have:=CK ec
   simpa using this
  refine ⟨hlt,fun x H'' ⟨e1,c',e2,e3⟩=>⟨e1,?_⟩⟩
  have:s[j]? =some c':=by simpa using e2
  rw [ec] at this
  cases this
  subst e3
  exact .str [c]
theorem bL(hl:QE X W l ma):QI X W tg l (Nh ma):=by
 refine ⟨fun pins s σ H R I ⟨φ,env,lh,h1,h2,q⟩=>?_⟩
 refine thn (hl.run pins s σ H (fun v H1=>(∃a,v=.ref a∧(∃xs,SqL X.K H1 a xs)∧R (Itl X.K a) H1)∨(∃a,v=.ref a∧(∃xs,SqT X.K H1 a xs)∧R (Itt X.K a) H1)∨(∃x,v=.str x∧R (Its x) H1)) I
  (rd_of h1 h2 (wp_step q fun d Ad φ1 v H1 p1 r1 q1=>?_))) fun v s1 ⟨x,H1,I1,r1,q1⟩=>?_
 ·cases d with
  |Ar ns=>
   cases r1 with
   |Ar hs=>exact .inl ⟨_,rfl,⟨_,LR (Ext.refl _) hs⟩,Av q1 (.refl p1.hr) (Yq hs)⟩
  |ref i=>
   obtain ⟨e1,hi⟩:=r1.Ft
   cases el:Ad[i]? with
   |none=>simp only [el] at q1;exact q1.elim
   |some o=>
    cases o with
    |lst xs=>
     simp only [el] at q1
     obtain ⟨vs,hv,r⟩:=p1.hr.lst el
     exact .inl ⟨_,e1,⟨_,SqL.of hv⟩,Av q1 (.refl p1.hr) (Yp hi)⟩
    |_=>simp only [el] at q1;exact q1.elim
  |tup xs=>
   obtain ⟨a,vs,e1,hq,r⟩:=r1.Fy
   exact .inr (.inl ⟨_,e1,⟨_,hq⟩,Av q1 (.refl p1.hr) (Ys hq r)⟩)
  |str s=>
   exact .inr (.inr ⟨_,r1.str_inv,Av q1 (.refl p1.hr) (Yr s)⟩)
  |_=>exact q1.elim
 ·rcases q1 with ⟨a,e,⟨xs,hq⟩,q1⟩|⟨a,e,⟨xs,hq⟩,q1⟩|⟨y,e,q1⟩
  ·subst e
   cases r1
   obtain ⟨its,rv,p,hz⟩:=I1.list hq
   refine wpAny_pyIter_list p.isList ?_
   refine ⟨s1.heap.objs.size,[s1.heap.objs.size],_,_,H1,rfl,I1.kept (t':=s1.toks) fun b o e=>Heap.get?_push_of_some _ e,turn_list a _,⟨_,Heap.get?_push_size _ rfl,rfl,rfl⟩,fun b hb=>?_,q1⟩
   have e:b=s1.heap.objs.size:=by simpa using hb
   subst e
   exact I1.fpOk (Nat.le_refl _) (I1.hok.fresh (Nat.le_refl _))
  ·subst e
   cases r1
   obtain ⟨its,rv,p,hz⟩:=I1.tuple hq
   refine wpAny_pyIter_tuple (show s1.heap.IsTuple a its.toArray from p) ?_
   refine ⟨s1.heap.objs.size,[s1.heap.objs.size],_,_,H1,rfl,I1.kept (t':=s1.toks) fun b o e=>Heap.get?_push_of_some _ e,turn_tuple a _,⟨_,Heap.get?_push_size _ rfl,rfl,rfl⟩,fun b hb=>?_,q1⟩
   have e:b=s1.heap.objs.size:=by simpa using hb
   subst e
   exact I1.fpOk (Nat.le_refl _) (I1.hok.fresh (Nat.le_refl _))
  ·subst e
   obtain ⟨t,rfl⟩:=r1
   cases ha:y.cps.all (· <128)
   ·exact wpAny_pyIter_wide ha (pi_one (tk:=s1.toks) I1 _ (turn_str _ y t "str_iterator" (.inr rfl)) ⟨_,Heap.get?_push_size _ rfl,rfl,rfl⟩ q1)
   ·exact wpAny_pyIter_ascii ha (pi_one (tk:=s1.toks) I1 _ (turn_str _ y t "str_ascii_iterator" (.inl rfl)) ⟨_,Heap.get?_push_size _ rfl,rfl,rfl⟩ q1)
end
def b_(f:D→D→LH→Res D)(i:Nat)(a:M D):MS:=fun e h=>match e[i]? with
 |some (some x)=>Ay (a e h) e fun y h1=>Ay (f x y h1) e fun z h2=>.next (e.set i (some z)) h2
 |_=>.bad
section
variable{X:Cx}{W:WX}{e:Expr}{ma:M D}{pos pos':Pos}
end
def Jv(f:MF):Prop:=∀ns:List Int,ns.length≤63→(∀z∈ns,Builtin.Int.intBits z≤1048576)→∃h,f [.Ar ns] []=.ok (.bl true) h
theorem ZX{K:PySem.W.Frag}{mg:Str→Option Value}{f:MF}(L:Jv f){H:Hp}{a:Addr}{ns:List Int}(hn:ns.length≤63)(hb:∀z∈ns,Builtin.Int.intBits z≤1048576)(hO:Only H)(hS:SqL K H a (ns.map V.int)):
  Ck K mg f [.ref a] H (fun v _=>v=.bl true) fun _ _ _=>False:=by
 obtain ⟨h,e⟩:=L ns hn hb
 have hs:RD K (fun _=>0) 0 H (.Ar ns) (.ref a):=by
  rcases hS with (hS|⟨o,hS⟩)|hS
  ·rcases hO a with h|⟨o,xs,h⟩
   ·rw [h] at hS;cases hS
   ·rw [h] at hS;cases hS
  ·exact .Ar (.inl ⟨o,hS⟩)
  ·exact .Ar (.inr hS)
 refine ⟨fun _=>0,[],[.Ar ns],⟨fun i j hi=>absurd hi (Nat.not_lt_zero _),fun i o hi=>by simp at hi⟩,.cons hs .nil,?_⟩
 rw [e]
 intro φ' v H' p r
 cases r
 rfl
end HM
namespace HM
open PySem L2 PySem.Spec PyProof.Rows
theorem Wh{P:Program}{w:World}{H:Hp}{s:Shared}{e:Value}{s':Shared}(h:L2.CX P w [] H s (fun _ _ _=>False) e s'):False:=by
 obtain ⟨_,_,_,_,_,_,_,_,_,_,_,_,z⟩:=h
 exact z
end HM
namespace HM
open PySem L2 PySem.Spec PyProof.Rows
open PySem.Builtin PySem.Builtin.Str PySem.Builtin.Int PySem.Builtin.Float
def fx:FormatSpec:={fill:=48,align:=61,sign:=none,noNeg0:=false,alt:=false,width:=some 18,grouping:=none,precision:=none,type:=some 120}
section
variable{prog:Program}{w:World}{A:Around}{E:Value→Shared→Prop}{s:Shared}
end
section
variable{X:Cx}{W:WX}{e:Expr}{ma:M D}
end
end HM
namespace HM
open PySem L2 PySem.Spec PyProof.Rows
section
variable{X:Cx}{W:WX}{o e:Expr}{ma mo:M D}{apos cpos:Pos}
theorem Dy{x:PySem.Str}{i:Int}{pos:Pos}(hg:Gl X x)(hm:∃t,X.mg x=some (.int i t))(hdb:(x==("__debug__":PySem.Str))=false:=by decide):QE X W (.Name x pos) (mC (.int i)):=by
 obtain ⟨t,h⟩:=hm
 exact T5 hg h (v:=.int i) ⟨t,rfl⟩ (fun _ _ _=>.int _) hdb
end
end HM
namespace HM
open PySem L2 PySem.Spec PyProof.Rows
def fW:List Value:=[.type "ValueError",.type "Exception",.type "BaseException",.type "object"]
structure XC(K:PySem.W.Frag)(mg:Str→Option Value)(x:String)(C:Addr):Prop where
 gC:mg (Str.ofString x)=some (.ref C)
 ex:PySem.W.excIn K C fW "ValueError.__new__"=true
 kC:PySem.W.keepIn K (.ref C)=true
 bC:PySem.W.subIn K (.ref C) (.type "BaseException")=some true
 tC:PySem.W.typeIn K (.ref C)=some (.type "type")
def XM(K:PySem.W.Frag)(mg:Str→Option Value)(x y:String)(b:Bool):Prop:=∃C D,mg (Str.ofString x)=some (.ref C)∧mg (Str.ofString y)=some (.ref D)∧PySem.W.exmOne K (.ref C) (.ref D)=some b
def Fw(x:String):MS:=fun e h=>.exc ⟨x,[]⟩ e h
def W0:WX:=fun _ _ _ _=>False
section
variable{X:Cx}{W:WX}
theorem HW{x:String}{C:Addr}{m:Str}{j:Nat}{p p2 pos pos':Pos}(hc:X.calm=true)(tk:Takes X W)(T:XC X.K X.mg x C)(hg:Gl X (Str.ofString x))(hdb:(Str.ofString x==("__debug__":Str))=false:=by decide+kernel):
  QS X W (.Raise (some (.Call (.Name (Str.ofString x) p) [.Constant (.str m) j p2] [] pos)) none pos') (Fw x):=
 psI (ps_raise hc tk (pmk_own PySem.F.excBase_ValueError T.ex T.gC T.kC (raises_own T.bC T.tC) hg hdb)) fun D σ H ⟨φ,env,lh,h1,h2,q⟩=>
  q φ (.ref C) none σ H (.refl h1) ⟨C,T.gC,rfl,fun _=>rfl,fun z=>absurd rfl z⟩ h2
def Dd(K:PySem.W.Frag)(mg:Str→Option Value)(y:String)(mt:String→Option Bool):Prop:=∀x b C,mg (Str.ofString x)=some (.ref C)→mt x=some b→XM K mg x y b
inductive Iz(X:Cx):List ExceptHandler→List ((String→Option Bool)×MS)→List (Value×(Addr→Value→Option Addr→TS))→Prop
 |nil:Iz X [] [] []
 |cons {y:String} {C:Addr} {mt:String→Option Bool} {ms:MS} {b₀:Stmt} {suite:List Stmt} {np pos':Pos} {hds:List ExceptHandler} {cl:List ((String→Option Bool)×MS)} {l:List (Value×(Addr→Value→Option Addr→TS))}
   (gC:X.mg (Str.ofString y)=some (.ref C)) (hg:Gl X (Str.ofString y)) (hm:Dd X.K X.mg y mt) (hsu:∀(a:Addr) (oe:Obj) (pn:List (Addr×Obj)),Cp (X.suite a ((a,oe)::pn)) W0 (b₀::suite) ms) (r:Iz X hds cl l)
   (hdb:(Str.ofString y==("__debug__":Str))=false:=by decide+kernel):
   Iz X (.ExceptHandler (some (.Name (Str.ofString y) np)) none (b₀::suite) pos'::hds) ((mt,ms)::cl) ((.ref C,fun _ _ _=>Im X.K X.mg W0 ms)::l)
theorem Iz.ok{hds:List ExceptHandler}{cl:List ((String→Option Bool)×MS)}{l:List (Value×(Addr→Value→Option Addr→TS))}(q:Iz X hds cl l):HdsOk X hds l:=by
 induction q with
 |nil=>exact .nil
 |cons gC hg hm hsu r hdb ih=>exact .cons ⟨hg,hdb,.inl gC⟩ (fun a oe cls d pn _ _=>hsu a oe pn) ih
end
end HM
namespace HM
open PySem L2 PySem.Spec PyProof.Rows
section
variable{X:Cx}
end
end HM
namespace HM
open PySem L2 PySem.Spec PyProof.Rows
theorem Xk{K:PySem.W.Frag}{C D:Addr}{b:Bool}(h1:PySem.W.subIn K (.ref D) (.type "BaseException")=some true)(h2:PySem.W.isClsIn K D=true)(h3:PySem.W.typeIn K (.ref D)=some (.type "type"))(h4:PySem.W.subIn K (.ref C) (.ref D)=some b):
  PySem.W.exmOne K (.ref C) (.ref D)=some b:=by
 have e1:(PySem.W.subIn K (.ref D) (.type "BaseException")==some true)=true:=by rw [h1]<;>rfl
 have e2:((PySem.W.clsIn K D).isSome&&PySem.W.typeIn K (.ref D)==some (.type "type"))=true:=by
  have h2':(PySem.W.clsIn K D).isSome=true:=h2
  rw [h2',h3]<;>rfl
 show (if (PySem.W.subIn K (.ref D) (.type "BaseException")==some true)=true then (if ((PySem.W.clsIn K D).isSome&&PySem.W.typeIn K (.ref D)==some (.type "type"))=true then PySem.W.subIn K (.ref C) (.ref D) else none) else none)=some b
 rw [if_pos e1,if_pos e2]
 exact h4
end HM
namespace HM
open PySem L2 PySem.Spec PyProof.Rows
section
variable{X:Cx}
end
end HM
namespace HM
open PySem L2 PySem.Spec PyProof.Rows
section
variable{X:Cx}{W:WX}{o e e2:Expr}{ma mo mb:M D}{apos cpos:Pos}
end
def Zh(a b:List Nat):Bool:= !decide (b<a)
def Uy(xs:List (List Nat)):List (List Nat):=xs.mergeSort Zh
def Wx:MF:=fun xs h=>match xs with
 |[d]=>if Yi d h then (match Eh d h with
  |some ys=>match G3 ys with
   |some ss=>.ok (.ref h.length) (h++[.lst ((Uy ss).map D.str)])
   |none=>.bad
  |none=>.bad) else .bad
 |_=>.bad
end HM
namespace HT
open PySem PySem.Spec PyProof.Rows
section
variable{prog:Program}{w:World}{A:Around}{E:Value→Shared→Prop}{s:Shared}
end
end HT
namespace HM
open PySem L2 PySem.Spec PyProof.Rows HT
section
variable{X:Cx}{W:WX}{e:Expr}{ma:M D}
end
end HM
namespace HM
open PySem L2 PySem.Spec PyProof.Rows
section
variable{i:Nat}
end
def El(K:PySem.W.Frag)(mg:Str→Option Value)(y:String)(mt:String→Option Bool):Prop:=∀x b C₀,mg (Str.ofString x)=some (.ref C₀)→mt x=some b→∃C D,mg (Str.ofString x)=some (.ref C)∧mg (Str.ofString y)=some (.ref D)∧PySem.W.kitOne K (.ref C) (.ref D)=some b∧ExcC K C
section
variable{X:Cx}{W:WX}
end
end HM
namespace HM
open PySem L2 PySem.Spec PyProof.Rows
def Zt:M D:=fun _ h=>.ok (.ref h.length) (h++[.dK []])
section
variable{X:Cx}{W:WX}
end
end HM
namespace HM
open PySem L2 PySem.Spec PyProof.Rows
section
variable{X:Cx}
end
end HM
namespace HM
open PySem L2 PySem.Spec PyProof.Rows
structure Lr(P:Program)(w:World)(K:PySem.W.Frag)(mg:Str→Option Value)(base:Heap)(k:Nat)(x:String)(f:MF):Prop where
 ex:∃fa fd ps,mg (Str.ofString x)=some (.ref fa)∧PySem.W.keepIn K (.ref fa)=true∧Binds K fd ps []∧FnOk P w K mg base (L2N.CX P w) k fa fd ps (Ck K mg f)
theorem Lr.mono{P:Program}{w:World}{K:PySem.W.Frag}{mg:Str→Option Value}{base:Heap}{k k':Nat}{x:String}{f:MF}(c:Lr P w K mg base k x f)(h:k≤k'):Lr P w K mg base k' x f:=by
 obtain ⟨fa,fd,ps,h1,h2,h3,h4⟩:=c.ex
 exact ⟨fa,fd,ps,h1,h2,h3,h4.mono h⟩
section
variable{X:Cx}{W:WX}{e a b c:Expr}{es:List Expr}{pos:Pos}{ma mb:M D}{Bl:M (List D)}
end
end HM
namespace HM
open PySem L2 PySem.Spec PyProof.Rows
section
variable{X:Cx}{W:WX}
end
end HM
namespace HM
open PySem L2 PySem.Spec PyProof.Rows
theorem TQ{a b:String}(h:Str.ofString a=Str.ofString b):a=b:=by
 rw [Str.ofString_eq_toList,Str.ofString_eq_toList] at h
 injection h with h
 have h2:a.toList.map Char.toNat=b.toList.map Char.toNat:=by simpa using h
 have h3:a.toList=b.toList:=(List.map_inj_right (fun x y e=>Char.ext (UInt32.toNat_inj.mp e))).mp h2
 exact String.toList_inj.mp h3
def Ea(f:String):List (String×D)→Option D
 |[]=>none
 |(g,x)::r=>if g=f then some x else Ea f r
def Jd(f:String)(d:D):List (String×D)→List (String×D)
 |[]=>[(f,d)]
 |(g,x)::r=>if g=f then (g,d)::r else (g,x)::Jd f d r
section
variable{K:PySem.W.Frag}{mg:Str→Option Value}{φ φ':Nat→Addr}{n n':Nat}{H:Hp}{lh:LH}
theorem RF.len{ds:List (String×D)}{vs:List (Str×V)}(r:RF K φ n H ds vs):ds.length=vs.length:=by
 induction r with
 |nil=>rfl
 |cons _ _ ih=>simp [ih]
theorem R6{f g:String}{v:V}{vs:List (Str×V)}(h:g=f):List.lookup (Str.ofString f) ((Str.ofString g,v)::vs)=some v:=by
 subst h
 simp [List.lookup]
theorem Zm{f g:String}{v:V}{vs:List (Str×V)}(h:¬g=f):List.lookup (Str.ofString f) ((Str.ofString g,v)::vs)=List.lookup (Str.ofString f) vs:=by
 have:(Str.ofString f==Str.ofString g)=false:=beq_eq_false_iff_ne.mpr fun e=>h (TQ e).symm
 simp [List.lookup,this]
theorem RF.get{f:String}{d:D}{ds:List (String×D)}{vs:List (Str×V)}(r:RF K φ n H ds vs)(h:Ea f ds=some d):∃v,vs.lookup (Str.ofString f)=some v∧RD K φ n H d v:=by
 induction r with
 |nil=>cases h
 | @cons g d' v ds vs h1 _ ih=>
  unfold Ea at h
  by_cases c:g=f
  ·rw [if_pos c] at h
   cases h
   exact ⟨v,R6 c,h1⟩
  ·rw [if_neg c] at h
   obtain ⟨v',e,q⟩:=ih h
   exact ⟨v',by rw [Zm c];exact e,q⟩
theorem RF.put{f:String}{d:D}{v:V}{ds:List (String×D)}{vs:List (Str×V)}(r:RF K φ n H ds vs)(q:RD K φ n H d v):RF K φ n H (Jd f d ds) (putF (Str.ofString f) v vs):=by
 induction r with
 |nil=>exact .cons q .nil
 | @cons g d' v' ds vs h1 h2 ih=>
  unfold Jd putF
  by_cases c:g=f
  ·rw [if_pos c,if_pos (by rw [c])]
   exact .cons q h2
  ·rw [if_neg c,if_neg fun e=>c (TQ e)]
   exact .cons h1 ih
end
structure iQ(K:PySem.W.Frag)(mg:Str→Option Value)(c f:String):Prop where
 ex:∃C,mg (Str.ofString c)=some (.ref C)∧Cls K C∧NoAttr K C (Str.ofString f)
structure Vh(CX:CXT)(P:Program)(w:World)(K:PySem.W.Frag)(mg:Str→Option Value)(base:Heap)(k:Nat)(c m:String)(f:MF):Prop where
 ex:∃C fa fd ps,mg (Str.ofString c)=some (.ref C)∧Cls K C∧Meth K C (Str.ofString m) fa∧Binds K fd ps []∧FnOk P w K mg base CX k fa fd ps (Ck K mg f)
structure Vj(CX:CXT)(P:Program)(w:World)(K:PySem.W.Frag)(mg:Str→Option Value)(base:Heap)(k:Nat)(c:String)(f:MF):Prop where
 ex:∃C fa fd ps,mg (Str.ofString c)=some (.ref C)∧Mk K C fa∧Binds K fd ps []∧FnOk P w K mg base CX k fa fd ps (Ck K mg f)
def HD(c:String)(x:D)(h:LH):Option (Nat×List (String×D)):=match x with
 | .ref i=>match h[i]? with
  |some (.ins c' fs)=>if c'=c then some (i,fs) else none
  |_=>none
 |_=>none
def FW(c f:String)(x:D)(h:LH):Res D:=match HD c x h with
 |some (_,fs)=>match Ea f fs with
  |some d=>.ok d h
  |none=>.bad
 |none=>.bad
def cG(c f:String)(o v:M D):MS:=fun e h=>Ay (v e h) e fun y h1=>Ay (o e h1) e fun x h2=>match HD c x h2 with
 |some (i,fs)=>if fs.length<1000 then .next e (h2.set i (.ins c (Jd f y fs))) else .bad
 |none=>.bad
def Ew(c m:String)(f:MF)(o:M D)(a:M (List D)):M D:=fun e h=>(o e h).bind fun x h1=>match HD c x h1 with
 |some (_,fs)=>match Ea m fs with
  |none=>(a e h1).bind fun xs h2=>f (x::xs) h2
  |some _=>.bad
 |none=>.bad
def Zw(c:String)(f:MF)(a:M (List D)):M D:=fun e h=>(a e h).bind fun xs h1=>(f (.ref h1.length::xs) (h1++[.ins c []])).bind fun d h2=>match d with
 | .non=>.ok (.ref h1.length) h2
 |_=>.bad
section
variable{X:Cx}{W:WX}{a o value:Expr}{e:Expr}{es:List Expr}{ma mo mv:M D}{Bl:M (List D)}{pos pos' apos p tpos:Pos}
end
section
variable{X:Cx}{CX:CXT}{k:Nat}{f C:Addr}{fd:FuncData}{ps:List Str}{sp:Sp}{E:L2.St→XK}{x m:Str}{p pos apos:Pos}{e o:Expr}{es:List Expr}{ta:TE}{t:TA}
end
section
variable{X:Cx}{W:WX}{CX:CXT}{k:Nat}{e o:Expr}{es:List Expr}{ma mo:M D}{Bl:M (List D)}{pos apos p:Pos}
end
end HM
namespace HM
open PySem L2 PySem.Spec PyProof.Rows
abbrev KD:=Sum Int (List Nat)
def keyD:D→Option KD
 | .int i=>some (.inl i)
 | .str s=>some (.inr s)
 |_=>none
def Nu:List D→Option (List KD)
 |[]=>some []
 |d::r=>match keyD d,Nu r with
  |some k,some ks=>some (k::ks)
  |_,_=>none
section
variable{κ:Type}[DecidableEq κ]
def DN(k:κ):List (κ×D)→Option D
 |[]=>none
 |(j,x)::r=>if j=k then some x else DN k r
def Kv(k:κ)(d:D)(kvs:List (κ×D)):List (κ×D):=if (DN k kvs).isSome=true then kvs.map (fun kv=>if kv.1=k then (kv.1,d) else kv) else kvs++[(k,d)]
def KJ(k:κ)(kvs:List (κ×D)):List (κ×D):=kvs.filter fun kv=>decide (kv.1≠k)
end
section
variable{K:PySem.W.Frag}{mg:Str→Option Value}{φ φ':Nat→Addr}{n n':Nat}{H:Hp}{lh:LH}
inductive RG{α β:Type}(c:α→β)(K:PySem.W.Frag)(φ:Nat→Addr)(n:Nat)(H:Hp):List (α×D)→List (β×V)→Prop
 |nil:RG c K φ n H [] []
 |cons {k:α} {d:D} {v:V} {ds:List (α×D)} {vs:List (β×V)}:RD K φ n H d v→RG c K φ n H ds vs→RG c K φ n H ((k,d)::ds) ((c k,v)::vs)
theorem RG.k{ds:List (KD×D)}{vs:List (Key×V)}(r:RG kc K φ n H ds vs):C_ K φ n H ds vs:=by
 induction r with
 |nil=>exact .nil
 |cons h _ ih=>exact .cons h ih
theorem RG.t{ds:List (List KD×D)}{vs:List (List Key×V)}(r:RG (List.map kc) K φ n H ds vs):D_ K φ n H ds vs:=by
 induction r with
 |nil=>exact .nil
 |cons h _ ih=>exact .cons h ih
section
variable{α β:Type}[DecidableEq α][DecidableEq β]{c:α→β}(ci:∀a b,c a=c b→a=b)
include ci
theorem RG.get{k:α}{ds:List (α×D)}{vs:List (β×V)}(r:RG c K φ n H ds vs):(∀d,DN k ds=some d→∃v,valV vs (c k)=some v∧RD K φ n H d v)∧(DN k ds=none→valV vs (c k)=none):=by
 induction r with
 |nil=>exact ⟨fun d h=>(by cases h),fun _=>rfl⟩
 | @cons j d v ds vs h1 _ ih=>
  unfold DN
  by_cases q:j=k
  ·rw [if_pos q,valV_pos (show ((c j,v):β×V).1=c k by rw [q])]
   exact ⟨fun e h=>⟨v,rfl,by cases h;exact h1⟩,fun h=>(by cases h)⟩
  ·rw [if_neg q,valV_neg (fun z=>q (ci _ _ z))]
   exact ih
theorem RG.d8{k:α}{ds:List (α×D)}{vs:List (β×V)}(r:RG c K φ n H ds vs):(valV vs (c k)).isSome=(DN k ds).isSome:=by
 obtain ⟨g1,g2⟩:=r.get ci (k:=k)
 cases e:DN k ds with
 |none=>rw [g2 e];rfl
 |some d=>
  obtain ⟨v,e2,_⟩:=g1 d e
  rw [e2];rfl
theorem RG.put{k:α}{d:D}{v:V}{ds:List (α×D)}{vs:List (β×V)}(r:RG c K φ n H ds vs)(q:RD K φ n H d v):RG c K φ n H (Kv k d ds) (putK vs (c k) v):=by
 unfold Kv putK
 rw [valV_any,r.d8 ci]
 split
 ·rename_i hz
  clear hz
  induction r with
  |nil=>exact .nil
  | @cons j d' v' ds vs h1 _ ih=>
   simp only [List.map_cons]
   by_cases e:j=k
   ·rw [if_pos e,if_pos (show c j=c k by rw [e])]
    exact .cons q ih
   ·rw [if_neg e,if_neg (fun z=>e (ci _ _ z))]
    exact .cons h1 ih
 ·rename_i hz
  clear hz
  induction r with
  |nil=>exact .cons q .nil
  |cons h1 _ ih=>exact .cons h1 ih
theorem RG.drop{k:α}{ds:List (α×D)}{vs:List (β×V)}(r:RG c K φ n H ds vs):RG c K φ n H (KJ k ds) (dropK vs (c k)):=by
 unfold KJ dropK
 induction r with
 |nil=>exact .nil
 | @cons j d' v' ds vs h1 _ ih=>
  simp only [List.filter_cons]
  by_cases e:j=k
  ·rw [if_neg (by simp [e]),if_neg (by simp [e])]
   exact ih
  ·rw [if_pos (by simp [e]),if_pos (by simpa using fun z=>e (ci _ _ z))]
   exact .cons h1 ih
omit ci in
theorem RG.len{ds:List (α×D)}{vs:List (β×V)}(r:RG c K φ n H ds vs):ds.length=vs.length:=by
 induction r with
 |nil=>rfl
 |cons _ _ ih=>simp [ih]
omit ci in
theorem RG.keys{ds:List (α×D)}{vs:List (β×V)}(r:RG c K φ n H ds vs):vs.map (·.1)=(ds.map (·.1)).map c:=by
 induction r with
 |nil=>rfl
 |cons _ _ ih=>simp [ih]
omit ci in
theorem RG.mono{H':Hp}{ds:List (α×D)}{vs:List (β×V)}(hn:n≤n')(ag:∀i,i<n→φ' i=φ i)(e:Ext H H')(r:RG c K φ n H ds vs):RG c K φ' n' H' ds vs:=by
 induction r with
 |nil=>exact .nil
 |cons h _ ih=>exact .cons (h.mono hn ag e) ih
end
inductive DK where
 |k (kvs:List (KD×D))
 |t (kvs:List (List KD×D))
def En(x:D)(h:LH):Option (Nat×DK):=match x with
 | .ref i=>match h[i]? with
  |some (.dK kvs)=>some (i,.k kvs)
  |some (.dT kvs)=>some (i,.t kvs)
  |_=>none
 |_=>none
def Q7(x:D)(h:LH):Option (Nat×DK):=match x with
 | .ref i=>match h[i]? with
  |some (.dK kvs)=>some (i,.k kvs)
  |some (.dT kvs)=>some (i,.t kvs)
  |some (.dL kvs)=>some (i,.k kvs)
  |_=>none
 |_=>none
end
section
variable{X:Cx}{W:WX}{e:Expr}{st:Stmt}
end
def Wm:D→D→LH→Res D:=fun x y h=>match Q7 x h,keyD y with
 |some (_,.k kvs),some k=>match DN k kvs with
  |some d=>.ok d h
  |none=>.bad
 |_,_=>.bad
def Wo:D→D→LH→Res D:=fun x y h=>match Q7 x h with
 |some _=>Wm x y h
 |none=>BP x y h
section
variable{X:Cx}{W:WX}{a b:Expr}{ma mb mv:M D}{pos:Pos}
end
def Ka(ys:List D)(x:D)(h:LH):Option (Option D):=match En x h,Nu ys with
 |some (_,.t kvs),some k=>some (DN k kvs)
 |_,_=>none
def Ny(neg:Bool)(mk:M (List D))(ma:M D):M D:=fun e h=>(mk e h).bind fun ys h1=>if ys.length≤16777216 then (ma e h1).bind fun x h2=>match Ka ys x h2 with
 |some o=>.ok (.bl (o.isSome != neg)) h2
 |none=>.bad else .bad
def R8(ma:M D)(mk:M (List D)):M D:=fun e h=>(ma e h).bind fun x h1=>(mk e h1).bind fun ys h2=>if ys.length≤16777216 then (match Ka ys x h2 with
 |some (some d)=>.ok d h2
 |_=>.bad) else .bad
section
variable{X:Cx}{W:WX}{a value:Expr}{ks:List Expr}{ma mv:M D}{mk:M (List D)}{pos p1 pos':Pos}
end
def cH(ma mb mv:M D):MS:=fun e h=>Ay (mv e h) e fun v h1=>Ay (ma e h1) e fun x h2=>Ay (mb e h2) e fun y h3=>match En x h3,keyD y with
 |some (i,.k kvs),some k=>if kvs.length<16777216 then .next e (h3.set i (.dK (Kv k v kvs))) else .bad
 |_,_=>.bad
def cD(ma mb:M D):MS:=fun e h=>Ay (ma e h) e fun x h1=>Ay (mb e h1) e fun y h2=>match En x h2,keyD y with
 |some (i,.k kvs),some k=>if (DN k kvs).isSome=true then .next e (h2.set i (.dK (KJ k kvs))) else .bad
 |_,_=>.bad
section
variable{X:Cx}{W:WX}{a b value:Expr}{ma mb mv:M D}{pos p1 pos' tpos:Pos}
end
def Zr(o k:M D):M D:=fun e h=>(o e h).bind fun x h1=>match En x h1 with
 |some _=>(k e h1).bind fun y h2=>(match En x h2,keyD y with
  |some (_,.k kvs),some k=>.ok ((DN k kvs).getD .non) h2
  |_,_=>.bad)
 |none=>.bad
section
variable{X:Cx}{W:WX}{o e f:Expr}{mo me mf:M D}{apos cpos:Pos}
end
end HM
namespace L2
open PySem PySem.Spec PyProof.Rows
structure ClX where
 c:Value
 i:Option Nat
 ts:Addr→Value→Option Addr→TS
def Jt(K:PySem.W.Frag)(Wout:WX)(D:Ends):List ClX→WX
 |[]=>Wout
 |q::r=>fun cls d σ H=>∃b,PySem.W.exmOne K cls q.c=some b∧(b=true→∀a,H a=none→(match q.i with
   |none=>q.ts a cls d D σ H
   |some i=>q.ts a cls d {nx:=fun σ' H'=>D.nx (σ'.set i none) H',rt:=D.rt,bk:=fun σ' H'=>D.bk (σ'.set i none) H',ct:=fun σ' H'=>D.ct (σ'.set i none) H'} (σ.set i (some (.ref a))) H))∧
  (b=false→Jt K Wout D r cls d σ H)
inductive GJ(X:Cx):List ExceptHandler→List ClX→Prop
 |nil:GJ X [] []
 |pl {x:Str} {c:Value} {ts:Addr→Value→Option Addr→TS} {b₀:Stmt} {suite:List Stmt} {np pos':Pos} {hds:List ExceptHandler} {l:List ClX} (hc:Names X x c)
   (hsu:∀(a:Addr) (oe:Obj) (cls:Value) (d:Option Addr) (pn:List (Addr×Obj)),Zc cls d oe→(∃vs,oe.data=.fields vs)→PSs (X.suite a ((a,oe)::pn)) (b₀::suite) (ts a cls d)) (r:GJ X hds l):
   GJ X (.ExceptHandler (some (.Name x np)) none (b₀::suite) pos'::hds) (⟨c,none,ts⟩::l)
 |nm {x n:Str} {i:Nat} {c:Value} {ts:Addr→Value→Option Addr→TS} {b₀:Stmt} {suite:List Stmt} {np pos':Pos} {hds:List ExceptHandler} {l:List ClX} (hN:X.N.Nodup) (hi:X.N[i]? =some n) (hln:X.env.kindOf n=some .local) (hc:Names X x c)
   (hsu:∀(a:Addr) (oe:Obj) (cls:Value) (d:Option Addr) (pn:List (Addr×Obj)),Zc cls d oe→(∃vs,oe.data=.fields vs)→PSs (X.suite a ((a,oe)::pn)) (b₀::suite) (ts a cls d)) (r:GJ X hds l):
   GJ X (.ExceptHandler (some (.Name x np)) (some n) (b₀::suite) pos'::hds) (⟨c,some i,ts⟩::l)
section
variable{X:Cx}{body:List Stmt}{h₀:ExceptHandler}{hds:List ExceptHandler}{l:List ClX}{pos:Pos}{tb:WX→TS}{Wout:WX}
theorem aq(hs:X.stack=X.env::X.outer)(hf:X.env.frame=some X.env.locals)(tk:Takes X Wout)
  (hb:∀(W:WX) (pn:List (Addr×Obj)) (xe:Value→Shared→Prop),Takes (X.tr pn xe) W→PassesOwn (model X.prog X.w) X.A X.env xe→PSs (X.tr pn xe) body (tb W))
  (hh:GJ X (h₀::hds) l):PS X (.Try body (h₀::hds) [] [] pos) (fun D σ H=>tb (Jt X.K Wout D l) D σ H):=by
 refine ⟨fun pins s σ H D I h=>?_⟩
 have ok:=I.ok
 have hfr:X.A.frames=some (X.env::X.outer):=by rw [ok.frames,hs]
 refine wpAny_Try_except ?_
 refine wpAny_mono ((hb (Jt X.K Wout D l) (X.pn++pins) (fun e s₁=>wpAny (model X.prog X.w) X.A (noteFrame e X.env) (fun _ s₂=>wpAny (model X.prog X.w) X.A (setFlight e none) (fun _ s₃=>
  wpAny (model X.prog X.w) X.A (handleBy e X.env (h₀::hds)) (SP X pins D) X.xe s₃) X.xe s₂) X.xe s₁) (fun u s' xx=>?_) PassesOwn.looking).run [] s σ H D (I.toTry _) h) (fun f s1 hsp=>?_) (fun e s1 he=>he)
 ·obtain ⟨a,B,sI,pins',σ',H',cls,d,rfl,J',nb,up,sky,na,os,ag,w⟩:=xx
  have J:Inv X pins σ' H' sI:=J'.ofTry ok
  have sky':Sky B (X.env::X.outer) a (Zc cls d) X.env.locals s'.heap:=by rw [←hs];exact sky
  show wpAny (model X.prog X.w) X.A (noteFrame (.ref a) X.env) _ _ _
  refine Sky.land Zc.steady hfr hf sky' fun h3 fl3 up3=>?_
  have J3:Inv X pins σ' H' {s' with heap:=h3}:=J.landed nb fl3.1 (up.trans up3) os ag
  obtain ⟨oe3,vs3,he3,hz3,hd3⟩:=fl3.there
  have notFr:∀{h:Heap} {o:Obj} {vs:Array Value},h.FunFrames B (X.env::X.outer)→h.get? a=some o→o.data=.fields vs→a ∉ frs (X.env::X.outer):=fun {h o vs} ff e dd hm=>by
   obtain ⟨_,o',e',hnf⟩:=ff.mem hm
   rw [e] at e';cases e'
   exact hnf _ dd
  have nfr:=notFr fl3.2.2.1 he3 hd3
  have nL:a≠X.env.locals:=fun z=>nfr (List.mem_filterMap.mpr ⟨X.env,List.mem_cons_self,by rw [hf,z]⟩)
  have nF:a ∉ X.fs:=fun hm=>by
   obtain ⟨e,he,q⟩:=List.mem_filterMap.mp hm
   exact nfr (List.mem_filterMap.mpr ⟨e,List.mem_cons_of_mem _ he,q⟩)
  have S3:=J3.suite he3 hd3 na nL nF
  have go:∀{hds':List ExceptHandler} {l':List ClX},GJ X hds' l'→Jt X.K Wout D l' cls d σ' H'→
    wpAny (model X.prog X.w) X.A (handleBy (.ref a) X.env hds') (SP X pins D) X.xe {s' with heap:=h3}:=by
   intro hds' l' hk
   induction hk with
   |nil=>
    intro w
    refine wpAny_handleBy_nil ?_
    obtain ⟨k1,k2,k3,oe,vs,T,oT,ts',he,hz,hd,h1,hr⟩:=id fl3
    unfold PySem.passOn
    refine wpAny_bind (wpAny_field he hd h1 ?_)
    rw [if_neg (show ¬((Value.ref T==Value.none)=true) from by simp)]
    have fin:wpAny (model X.prog X.w) X.A (setFlight (.ref a) X.env.frame) (fun _ s4=>wpAny (model X.prog X.w) X.A (throw (.ref a):Sem Flow) (SP X pins D) X.xe s4) X.xe {s' with heap:=h3}:=by
     rw [hf]
     refine HandSPX.setFlight_upZ fl3 fun h4 hh4 up4=>wpAny_throw (tk _ _ ?_)
     exact ⟨a,B,sI,pins,σ',H',cls,d,rfl,J,nb,(up.trans up3).trans up4,.inr (.inr (by rw [hs];exact hh4)),na,os,ag,w⟩
    first
     |exact wpAny_bind (wpAny_pure (wpAny_bind fin))
     |exact wpAny_bind fin
   | @pl x c ts b₀ suite np pos' hds2 l2 hc hsu r ih=>
    intro w
    obtain ⟨b,hb1,hyes,hno⟩:=w
    refine wpAny_handleBy_cons (codeAny_handlers_test ?_) (by intro q;cases q)
    have LT:PySem.W.Looks (model X.prog X.w) h3 (typeOf (.ref a)) cls:=fun A Q E s k q=>wpAny_typeOf_ref (k _ _ he3) (by rw [hz3.1];exact q)
    have LM:=PySem.W.exm_one (M:=model X.prog X.w) (J3.kIn) LT hb1
    have test:∀{Q:Value→Shared→Prop} {E:Value→Shared→Prop},Q c {s' with heap:=h3}→wpAny (model X.prog X.w) (X.A.mark (some (.ref a))) (eval (.Name x np) X.env) Q E {s' with heap:=h3}:=fun {Q E} q=>by
     obtain ⟨hg,hdbg,hm|⟨hm,hv,hnn⟩⟩:=hc
     ·exact ld_glob (X:=X.suite a ((a,oe3)::(X.pn++pins))) S3 hg hm q hdbg
     ·exact ld_blt (X:=X.suite a ((a,oe3)::(X.pn++pins))) S3 hg hm hv q hnn hdbg
    refine test (LM.here ?_)
    cases b with
    |true=>
     refine codeAny_handlers_suite ?_
     refine HandSPX.lands_againZ fl3 fun h4 fl4 up4=>?_
     have J4:Inv X pins σ' H' {s' with heap:=h4}:=J.landed nb fl4.1 ((up.trans up3).trans up4) os ag
     obtain ⟨oe4,vs4,he4,hz4,hd4⟩:=fl4.there
     have S4:=J4.suite he4 hd4 na nL nF
     refine wpAny_mono ((hsu a oe4 cls d (X.pn++pins) hz4 ⟨_,hd4⟩).run [] _ _ H' _ S4 (hyes rfl a na)) (fun f s6 hsp=>?_) (fun _ _ z=>False.elim z)
     cases f with
     |next=>
      obtain ⟨σ6,H6,S6,q6⟩:=hsp
      exact ⟨_,_,S6.unsuite ok,q6⟩
     |brk=>
      obtain ⟨σ6,H6,S6,q6⟩:=hsp
      exact ⟨_,_,S6.unsuite ok,q6⟩
     |cont=>
      obtain ⟨σ6,H6,S6,q6⟩:=hsp
      exact ⟨_,_,S6.unsuite ok,q6⟩
     |ret u=>
      obtain ⟨v6,σ6,H6,S6,r6,q6⟩:=hsp
      exact ⟨_,_,_,S6.unsuite ok,r6,q6⟩
    |false=>
     show wpAny _ X.A (handleBy (.ref a) X.env hds2) _ _ _
     exact ih (hno rfl)
   | @nm x n i c ts b₀ suite np pos' hds2 l2 hN hi hln hc hsu r ih=>
    intro w
    have hloc:Loc X.env.scope n:=.inl hln
    obtain ⟨b,hb1,hyes,hno⟩:=w
    refine wpAny_handleBy_cons (codeAny_handlers_test ?_) (by intro q;cases q)
    have LT:PySem.W.Looks (model X.prog X.w) h3 (typeOf (.ref a)) cls:=fun A Q E s k q=>wpAny_typeOf_ref (k _ _ he3) (by rw [hz3.1];exact q)
    have LM:=PySem.W.exm_one (M:=model X.prog X.w) (J3.kIn) LT hb1
    have test:∀{Q:Value→Shared→Prop} {E:Value→Shared→Prop},Q c {s' with heap:=h3}→wpAny (model X.prog X.w) (X.A.mark (some (.ref a))) (eval (.Name x np) X.env) Q E {s' with heap:=h3}:=fun {Q E} q=>by
     obtain ⟨hg,hdbg,hm|⟨hm,hv,hnn⟩⟩:=hc
     ·exact ld_glob (X:=X.suite a ((a,oe3)::(X.pn++pins))) S3 hg hm q hdbg
     ·exact ld_blt (X:=X.suite a ((a,oe3)::(X.pn++pins))) S3 hg hm hv q hnn hdbg
    refine test (LM.here ?_)
    cases b with
    |true=>
     refine codeAny_handlers_suite_as ?_
     refine HandSPX.lands_againZ fl3 fun h4 fl4 up4=>?_
     have J4:Inv X pins σ' H' {s' with heap:=h4}:=J.landed nb fl4.1 ((up.trans up3).trans up4) os ag
     obtain ⟨oe4,vs4,he4,hz4,hd4⟩:=fl4.there
     have S4:=J4.suite he4 hd4 na nL nF
     refine store_ok (X:=X.suite a ((a,oe4)::(X.pn++pins))) (v:=.ref a) S4 hN hi hloc rfl (fun s5 S5=>?_) (.inr hln)
     refine wpAny_mono ((hsu a oe4 cls d (X.pn++pins) hz4 ⟨_,hd4⟩).run [] s5 _ H' _ S5 (hyes rfl a na)) (fun f s6 hsp=>?_) (fun _ _ z=>False.elim z)
     have end_:∀{σ6:St} {H6:Hp} {Q:Shared→Prop},Inv (X.suite a ((a,oe4)::(X.pn++pins))) [] σ6 H6 s6→(∀s7,Inv X pins (σ6.set i none) H6 s7→Q s7)→
       wpAny (model X.prog X.w) X.A (do bindName X.env n .none;unbindBehindTheSuite X.env n pos') (fun _ s7=>Q s7) X.xe s6:=fun {σ6 H6 Q} S6 hq=>gone_ok (S6.unsuite ok) hN hi hln hq
     cases f with
     |next=>
      obtain ⟨σ6,H6,S6,q6⟩:=hsp
      exact end_ S6 fun s7 J7=>⟨_,_,J7,q6⟩
     |brk=>
      obtain ⟨σ6,H6,S6,q6⟩:=hsp
      exact end_ S6 fun s7 J7=>⟨_,_,J7,q6⟩
     |cont=>
      obtain ⟨σ6,H6,S6,q6⟩:=hsp
      exact end_ S6 fun s7 J7=>⟨_,_,J7,q6⟩
     |ret u=>
      obtain ⟨v6,σ6,H6,S6,r6,q6⟩:=hsp
      exact end_ S6 fun s7 J7=>⟨_,_,_,J7,r6,q6⟩
    |false=>
     show wpAny _ X.A (handleBy (.ref a) X.env hds2) _ _ _
     exact ih (hno rfl)
  exact go hh w
 ·cases f with
  |next=>
   obtain ⟨σ',H',J',q⟩:=hsp
   exact wpAny_execs_nil ⟨σ',H',J'.ofTry ok,q⟩
  |brk=>
   obtain ⟨σ',H',J',q⟩:=hsp
   exact ⟨σ',H',J'.ofTry ok,q⟩
  |cont=>
   obtain ⟨σ',H',J',q⟩:=hsp
   exact ⟨σ',H',J'.ofTry ok,q⟩
  |ret u=>
   obtain ⟨v,σ',H',J',r,q⟩:=hsp
   exact ⟨v,σ',H',J'.ofTry ok,r,q⟩
end
end L2
namespace HM
open PySem L2 PySem.Spec PyProof.Rows
def Dj(x:XO):Option (Option D):=match x.JK with
 |[]=>some none
 |[(f,d)]=>if f="reason" then some (some d) else none
 |_=>none
def Ac(p:Addr×Addr)(z:Option D):D:=match z with
 |none=>.Cg p.1
 |some d=>.Bv p.1 p.2 d
def Nb(rt:String→Bool)(x:XO):Bool:=rt x.cls&&(match Dj x with
 |some (some _)=>true
 |_=>false)
def HS(rt:String→Bool)(x:XO)(p:Addr×Addr)(m:M D):M D:=fun e h=>(m e h).bind fun d h1=>match d with
 | .Bv a dx r=>if a=p.1∧dx=p.2∧Nb rt x=true then .ok r h1 else .bad
 |_=>.bad
def Fp(x:XO):Bool:=match Dj x with
 |some none=>true
 |_=>false
def Bg(x:XO)(p:Addr×Addr)(b:Option Bool)(m:M D):M D:=fun e h=>(m e h).bind fun d h1=>match d,b with
 | .Cg a,some c=>if a=p.1∧Fp x=true then .ok (.bl c) h1 else .bad
 | .Bv a dx _,some c=>if a=p.1∧dx=p.2 then .ok (.bl c) h1 else .bad
 |_,_=>.bad
inductive GF where
 |pl (mt:String→Option Bool) (ms:MS)
 |nm (mt:String→Option Bool) (i:Nat) (ms:XO→Addr×Addr→MS)
def Gz(x:XO)(e:EN)(h:LH):List GF→B_
 |[]=>.exc x e h
 | .pl mt ms::r=>match mt x.cls with
  |some true=>(match ms e h with
   | .exc _ _ _=>.bad
   |z=>z)
  |some false=>Gz x e h r
  |none=>.bad
 | .nm mt i ms::r=>match mt x.cls with
  |some true=>(match Dj x with
   |some z=>(match ms x (0,0) (e.set i (some (Ac (0,0) z))) h with
    | .ret d h2=>.ret d h2
    | .next e2 h2=>.next (e2.set i none) h2
    | .cnt e2 h2=>.cnt (e2.set i none) h2
    |_=>.bad)
   |none=>.bad)
  |some false=>Gz x e h r
  |none=>.bad
def Jg(b:MS)(cl:List GF):MS:=fun e h=>match b e h with
 | .exc x e1 h1=>Gz x e1 h1 cl
 |z=>z
def Uq{α:Type}(i:Nat)(m:Addr×Addr→M α):Prop:=∀(p p':Addr×Addr) (z:Option D) (e:EN),m p (e.set i (some (Ac p z)))=m p' (e.set i (some (Ac p' z)))
def Dm(i:Nat)(m:Addr×Addr→MS):Prop:=∀(p p':Addr×Addr) (z:Option D) (e:EN) (h:LH),match m p (e.set i (some (Ac p z))) h with
 | .ret d h2=>m p' (e.set i (some (Ac p' z))) h=.ret d h2
 | .next e2 h2=>∃e0,e2=List.set e0 i (some (Ac p z))∧m p' (e.set i (some (Ac p' z))) h=.next (e0.set i (some (Ac p' z))) h2
 | .cnt e2 h2=>∃e0,e2=List.set e0 i (some (Ac p z))∧m p' (e.set i (some (Ac p' z))) h=.cnt (e0.set i (some (Ac p' z))) h2
 |_=>True
section
variable{i:Nat}
theorem Jm{d:D}:Uq i fun _=>mC d:=fun _ _ _ _=>rfl
theorem Jr:Uq i fun _=>Ag:=fun _ _ _ _=>rfl
theorem Ph:Uq i fun _=>R9:=fun _ _ _ _=>rfl
theorem QL{j:Nat}(hj:j≠i):Uq i fun _=>Aa j:=fun p p' z e=>by
 show Aa j (e.set i (some (Ac p z)))=Aa j (e.set i (some (Ac p' z)))
 unfold Aa
 rw [List.getElem?_set_ne (Ne.symm hj),List.getElem?_set_ne (Ne.symm hj)]
theorem Lj{e:EN}{p:Addr×Addr}{z:Option D}:(i<e.length∧(e.set i (some (Ac p z)))[i]? =some (some (Ac p z)))∨(¬i<e.length∧(e.set i (some (Ac p z)))[i]? =none):=by
 by_cases hi:i<e.length
 ·exact .inl ⟨hi,List.getElem?_set_self hi⟩
 ·exact .inr ⟨hi,List.getElem?_eq_none (by simp;omega)⟩
theorem Jp{x:XO}{b:Option Bool}:Uq i fun p=>Bg x p b (Aa i):=fun p p' z e=>by
 funext h
 show Bg x p b (Aa i) (e.set i (some (Ac p z))) h=Bg x p' b (Aa i) (e.set i (some (Ac p' z))) h
 unfold Bg Aa
 rcases Lj (e:=e) (p:=p) (z:=z) (i:=i) with ⟨h1,e1⟩|⟨h1,e1⟩<;>rcases Lj (e:=e) (p:=p') (z:=z) (i:=i) with ⟨h2,e2⟩|⟨h2,e2⟩
 ·rw [e1,e2]
  cases z<;>cases b<;>simp [Res.bind,Ac]
 ·exact absurd h1 h2
 ·exact absurd h2 h1
 ·rw [e1,e2]
  rfl
theorem PB{rt:String→Bool}{x:XO}:Uq i fun p=>HS rt x p (Aa i):=fun p p' z e=>by
 funext h
 show HS rt x p (Aa i) (e.set i (some (Ac p z))) h=HS rt x p' (Aa i) (e.set i (some (Ac p' z))) h
 unfold HS Aa
 rcases Lj (e:=e) (p:=p) (z:=z) (i:=i) with ⟨h1,e1⟩|⟨h1,e1⟩<;>rcases Lj (e:=e) (p:=p') (z:=z) (i:=i) with ⟨h2,e2⟩|⟨h2,e2⟩
 ·rw [e1,e2]
  cases z<;>simp [Res.bind,Ac]
 ·exact absurd h1 h2
 ·exact absurd h2 h1
 ·rw [e1,e2]
  rfl
theorem Pk{f:D→D→LH→Res D}{x y:Addr×Addr→M D}(hx:Uq i x)(hy:Uq i y):Uq i fun p=>Af f (x p) (y p):=fun p p' z e=>by
 show Af f (x p) (y p) (e.set i (some (Ac p z)))=Af f (x p') (y p') (e.set i (some (Ac p' z)))
 unfold Af
 rw [hx p p' z e,hy p p' z e]
theorem QK{f:D→LH→Res D}{x:Addr×Addr→M D}(hx:Uq i x):Uq i fun p=>Du f (x p):=fun p p' z e=>by
 show Du f (x p) (e.set i (some (Ac p z)))=Du f (x p') (e.set i (some (Ac p' z)))
 unfold Du
 rw [hx p p' z e]
theorem Jo{x:Addr×Addr→M D}{y:Addr×Addr→M (List D)}(hx:Uq i x)(hy:Uq i y):Uq i fun p=>Ab (x p) (y p):=fun p p' z e=>by
 show Ab (x p) (y p) (e.set i (some (Ac p z)))=Ab (x p') (y p') (e.set i (some (Ac p' z)))
 unfold Ab
 rw [hx p p' z e,hy p p' z e]
theorem O9{f:MF}{y:Addr×Addr→M (List D)}(hy:Uq i y):Uq i fun p=>Am f (y p):=fun p p' z e=>by
 show Am f (y p) (e.set i (some (Ac p z)))=Am f (y p') (e.set i (some (Ac p' z)))
 unfold Am
 rw [hy p p' z e]
theorem Pg{c m:String}{f:MF}{x:Addr×Addr→M D}{y:Addr×Addr→M (List D)}(hx:Uq i x)(hy:Uq i y):Uq i fun p=>Ew c m f (x p) (y p):=fun p p' z e=>by
 show Ew c m f (x p) (y p) (e.set i (some (Ac p z)))=Ew c m f (x p') (y p') (e.set i (some (Ac p' z)))
 unfold Ew
 rw [hx p p' z e,hy p p' z e]
theorem QH{y:Addr×Addr→M (List D)}(hy:Uq i y):Uq i fun p=>Ja (y p):=fun p p' z e=>by
 show Ja (y p) (e.set i (some (Ac p z)))=Ja (y p') (e.set i (some (Ac p' z)))
 unfold Ja
 rw [hy p p' z e]
theorem Jq{y:Addr×Addr→M (List D)}(hy:Uq i y):Uq i fun p=>Bw (y p):=fun p p' z e=>by
 show Bw (y p) (e.set i (some (Ac p z)))=Bw (y p') (e.set i (some (Ac p' z)))
 unfold Bw
 rw [hy p p' z e]
theorem O8{x y:Addr×Addr→M D}(hx:Uq i x)(hy:Uq i y):Uq i fun p=>Fe (x p) (y p):=fun p p' z e=>by
 show Fe (x p) (y p) (e.set i (some (Ac p z)))=Fe (x p') (y p') (e.set i (some (Ac p' z)))
 unfold Fe
 rw [hx p p' z e,hy p p' z e]
theorem Pn{x y:Addr×Addr→M D}(hx:Uq i x)(hy:Uq i y):Uq i fun p=>JX (x p) (y p):=fun p p' z e=>by
 show JX (x p) (y p) (e.set i (some (Ac p z)))=JX (x p') (y p') (e.set i (some (Ac p' z)))
 unfold JX
 rw [hx p p' z e,hy p p' z e]
theorem Pj{x:Addr×Addr→M D}(hx:Uq i x):Uq i fun p=>Ih (x p):=fun p p' z e=>by
 show Ih (x p) (e.set i (some (Ac p z)))=Ih (x p') (e.set i (some (Ac p' z)))
 unfold Ih
 rw [hx p p' z e]
theorem QG{x:Addr×Addr→M D}(hx:Uq i x):Uq i fun p=>Bc (x p):=fun p p' z e=>by
 show Bc (x p) (e.set i (some (Ac p z)))=Bc (x p') (e.set i (some (Ac p' z)))
 unfold Bc
 rw [hx p p' z e]
theorem QF{x:Addr×Addr→M D}(hx:Uq i x):Uq i fun p=>Bh (x p):=fun p p' z e=>by
 show Bh (x p) (e.set i (some (Ac p z)))=Bh (x p') (e.set i (some (Ac p' z)))
 unfold Bh
 rw [hx p p' z e]
theorem QC{x:Addr×Addr→M Bool}(hx:Uq i x):Uq i fun p=>Bs (x p):=fun p p' z e=>by
 show Bs (x p) (e.set i (some (Ac p z)))=Bs (x p') (e.set i (some (Ac p' z)))
 unfold Bs
 rw [hx p p' z e]
theorem P_{x y:Addr×Addr→M Bool}(hx:Uq i x)(hy:Uq i y):Uq i fun p=>JZ (x p) (y p):=fun p p' z e=>by
 show JZ (x p) (y p) (e.set i (some (Ac p z)))=JZ (x p') (y p') (e.set i (some (Ac p' z)))
 unfold JZ
 rw [hx p p' z e,hy p p' z e]
theorem QD{x y:Addr×Addr→M Bool}(hx:Uq i x)(hy:Uq i y):Uq i fun p=>CN (x p) (y p):=fun p p' z e=>by
 show CN (x p) (y p) (e.set i (some (Ac p z)))=CN (x p') (y p') (e.set i (some (Ac p' z)))
 unfold CN
 rw [hx p p' z e,hy p p' z e]
theorem Pb{b:BT}{x:Addr×Addr→M D}(hx:Uq i x):Uq i fun p=>Bq b (x p):=fun p p' z e=>by
 show Bq b (x p) (e.set i (some (Ac p z)))=Bq b (x p') (e.set i (some (Ac p' z)))
 unfold Bq
 rw [hx p p' z e]
theorem Pq{x:Addr×Addr→M D}(hx:Uq i x):Dm i fun p=>Aq (x p):=fun p p' z e h=>by
 have:=hx p p' z e
 show match Aq (x p) (e.set i (some (Ac p z))) h with
  | .ret d h2=>Aq (x p') (e.set i (some (Ac p' z))) h=.ret d h2
  | .next e2 h2=>∃e0,e2=List.set e0 i (some (Ac p z))∧Aq (x p') (e.set i (some (Ac p' z))) h=.next (e0.set i (some (Ac p' z))) h2
  | .cnt e2 h2=>∃e0,e2=List.set e0 i (some (Ac p z))∧Aq (x p') (e.set i (some (Ac p' z))) h=.cnt (e0.set i (some (Ac p' z))) h2
  |_=>True
 unfold Aq Ay
 dsimp only
 rw [this]
 cases x p' (e.set i (some (Ac p' z))) h<;>simp
theorem Pr:Dm i fun _=>Uh:=fun p p' z e h=>rfl
theorem Pu:Dm i fun _=>BW:=fun p p' z e h=>⟨e,rfl,rfl⟩
theorem PN{x:Addr×Addr→M D}(hx:Uq i x):Dm i fun p=>HX (x p):=fun p p' z e h=>by
 have:=hx p p' z e
 show match HX (x p) (e.set i (some (Ac p z))) h with
  | .ret d h2=>HX (x p') (e.set i (some (Ac p' z))) h=.ret d h2
  | .next e2 h2=>∃e0,e2=List.set e0 i (some (Ac p z))∧HX (x p') (e.set i (some (Ac p' z))) h=.next (e0.set i (some (Ac p' z))) h2
  | .cnt e2 h2=>∃e0,e2=List.set e0 i (some (Ac p z))∧HX (x p') (e.set i (some (Ac p' z))) h=.cnt (e0.set i (some (Ac p' z))) h2
  |_=>True
 unfold HX Ay
 dsimp only
 rw [this]
 cases x p' (e.set i (some (Ac p' z))) h with
 |ok d h2=>exact ⟨e,rfl,rfl⟩
 |exc x h2=>trivial
 |bad=>trivial
theorem Py{j:Nat}(hj:j≠i){x:Addr×Addr→M D}(hx:Uq i x):Dm i fun p=>BL j (x p):=fun p p' z e h=>by
 have:=hx p p' z e
 show match BL j (x p) (e.set i (some (Ac p z))) h with
  | .ret d h2=>BL j (x p') (e.set i (some (Ac p' z))) h=.ret d h2
  | .next e2 h2=>∃e0,e2=List.set e0 i (some (Ac p z))∧BL j (x p') (e.set i (some (Ac p' z))) h=.next (e0.set i (some (Ac p' z))) h2
  | .cnt e2 h2=>∃e0,e2=List.set e0 i (some (Ac p z))∧BL j (x p') (e.set i (some (Ac p' z))) h=.cnt (e0.set i (some (Ac p' z))) h2
  |_=>True
 unfold BL Ay
 dsimp only
 rw [this]
 cases x p' (e.set i (some (Ac p' z))) h with
 |ok d h2=>exact ⟨e.set j (some d),(List.set_comm _ _ hj.symm),by dsimp only;rw [List.set_comm _ _ hj.symm]⟩
 |exc x h2=>trivial
 |bad=>trivial
theorem Pa{c:Addr×Addr→M Bool}{x y:Addr×Addr→MS}(hc:Uq i c)(hx:Dm i x)(hy:Dm i y):Dm i fun p=>BJ (c p) (x p) (y p):=fun p p' z e h=>by
 have:=hc p p' z e
 show match BJ (c p) (x p) (y p) (e.set i (some (Ac p z))) h with
  | .ret d h2=>BJ (c p') (x p') (y p') (e.set i (some (Ac p' z))) h=.ret d h2
  | .next e2 h2=>∃e0,e2=List.set e0 i (some (Ac p z))∧BJ (c p') (x p') (y p') (e.set i (some (Ac p' z))) h=.next (e0.set i (some (Ac p' z))) h2
  | .cnt e2 h2=>∃e0,e2=List.set e0 i (some (Ac p z))∧BJ (c p') (x p') (y p') (e.set i (some (Ac p' z))) h=.cnt (e0.set i (some (Ac p' z))) h2
  |_=>True
 unfold BJ Ay
 dsimp only
 rw [this]
 cases c p' (e.set i (some (Ac p' z))) h with
 |ok b h2=>
  cases b with
  |true=>exact hx p p' z e h2
  |false=>exact hy p p' z e h2
 |exc x h2=>trivial
 |bad=>trivial
theorem Px{x y:Addr×Addr→MS}(hx:Dm i x)(hy:Dm i y):Dm i fun p=>Ak (x p) (y p):=fun p p' z e h=>by
 have a:=hx p p' z e h
 show match Ak (x p) (y p) (e.set i (some (Ac p z))) h with
  | .ret d h2=>Ak (x p') (y p') (e.set i (some (Ac p' z))) h=.ret d h2
  | .next e2 h2=>∃e0,e2=List.set e0 i (some (Ac p z))∧Ak (x p') (y p') (e.set i (some (Ac p' z))) h=.next (e0.set i (some (Ac p' z))) h2
  | .cnt e2 h2=>∃e0,e2=List.set e0 i (some (Ac p z))∧Ak (x p') (y p') (e.set i (some (Ac p' z))) h=.cnt (e0.set i (some (Ac p' z))) h2
  |_=>True
 unfold Ak
 revert a
 cases x p (e.set i (some (Ac p z))) h with
 |next e2 h2=>
  rintro ⟨e0,rfl,a⟩
  rw [a]
  exact hy p p' z e0 h2
 |ret d h2=>intro a;dsimp only at a ⊢; rw [a]
 |cnt e2 h2=>
  rintro ⟨e0,rfl,a⟩
  exact ⟨e0,rfl,by rw [a]⟩
 |brk e2 h2=>intro a;trivial
 |exc x e2 h2=>intro a;trivial
 |bad=>intro a;trivial
end
section
variable{X:Cx}{W:WX}
structure G6(mg:Str→Option Value)(x:XO)(C0:Addr)(d:Option Addr)(oe:Obj):Prop where
 gC:mg (Str.ofString x.cls)=some (.ref C0)
 z:Zc (.ref C0) d oe
 f:∃vs,oe.data=.fields vs
 d0:Dj x=some none→d=none
 d1:∀r,Dj x=some (some r)→∃dx,d=some dx
inductive Cz(X:Cx):List ExceptHandler→List GF→List ClX→Prop
 |nil:Cz X [] [] []
 |pl {y:String} {C:Addr} {mt:String→Option Bool} {ms:MS} {b₀:Stmt} {suite:List Stmt} {np pos':Pos} {hds:List ExceptHandler} {cl:List GF} {l:List ClX}
   (gC:X.mg (Str.ofString y)=some (.ref C)) (hg:Gl X (Str.ofString y)) (hm:Dd X.K X.mg y mt) (hsu:∀(a:Addr) (oe:Obj) (pn:List (Addr×Obj)),Cp (X.suite a ((a,oe)::pn)) W0 (b₀::suite) ms) (r:Cz X hds cl l)
   (hdb:(Str.ofString y==("__debug__":Str))=false:=by decide+kernel):
   Cz X (.ExceptHandler (some (.Name (Str.ofString y) np)) none (b₀::suite) pos'::hds) (.pl mt ms::cl) (⟨.ref C,none,fun _ _ _=>Im X.K X.mg W0 ms⟩::l)
 |nm {y:String} {C:Addr} {mt:String→Option Bool} {n:Str} {i:Nat} {ms:XO→Addr×Addr→MS} {b₀:Stmt} {suite:List Stmt} {np pos':Pos} {hds:List ExceptHandler} {cl:List GF} {l:List ClX}
   (hN:X.N.Nodup) (hi:X.N[i]? =some n) (hln:X.env.kindOf n=some .local)
   (gC:X.mg (Str.ofString y)=some (.ref C)) (hg:Gl X (Str.ofString y)) (hm:Dd X.K X.mg y mt)
   (hsu:∀(a:Addr) (oe:Obj) (pn:List (Addr×Obj)) (x:XO) (C0:Addr) (d:Option Addr),G6 X.mg x C0 d oe→Cp (X.suite a ((a,oe)::pn)) W0 (b₀::suite) (ms x (a,d.getD 0)))
   (un:∀x,Dm i (ms x)) (r:Cz X hds cl l) (hdb:(Str.ofString y==("__debug__":Str))=false:=by decide+kernel):
   Cz X (.ExceptHandler (some (.Name (Str.ofString y) np)) (some n) (b₀::suite) pos'::hds) (.nm mt i ms::cl)
    (⟨.ref C,some i,fun a cls d D σ H=>∃x C0,X.mg (Str.ofString x.cls)=some (.ref C0)∧cls=.ref C0∧(Dj x=some none→d=none)∧(∀r,Dj x=some (some r)→∃dx,d=some dx)∧Im X.K X.mg W0 (ms x (a,d.getD 0)) D σ H⟩::l)
theorem Cz.ok{hds:List ExceptHandler}{cl:List GF}{l:List ClX}(q:Cz X hds cl l):GJ X hds l:=by
 induction q with
 |nil=>exact .nil
 |pl gC hg hm hsu r hdb ih=>exact .pl ⟨hg,hdb,.inl gC⟩ (fun a oe cls d pn _ _=>hsu a oe pn) ih
 |nm hN hi hln gC hg hm hsu un r hdb ih=>
  refine .nm hN hi hln ⟨hg,hdb,.inl gC⟩ (fun a oe cls d pn hz hfl=>⟨fun pins s σ H D I ⟨x,C0,h1,h2,h3,h4,h5⟩=>?_⟩) ih
  subst h2
  exact (hsu a oe pn x C0 d ⟨h1,hz,hfl,h3,h4⟩).run pins s σ H D I h5
theorem YL{hds:List ExceptHandler}{cl:List GF}{l:List ClX}(q:Cz X hds cl l){Wout:WX}{D:Ends}{φ φ1:Nat→Addr}{lh Ad:LH}{H H1:Hp}{x:XO}{e1:EN}{cls:Value}{dd:Option Addr}{σ1:L2.St}
  (p:Po X.K X.mg φ lh H φ1 Ad H1) (er:ER X.K X.mg φ1 Ad.length H1 x cls dd) (rs:RS X.K φ1 Ad.length H1 e1 σ1)
  (h:wps X.K X.mg Wout (Gz x e1 Ad cl) φ lh H D):Jt X.K Wout D l cls dd σ1 H1:=by
 induction q with
 |nil=>exact h φ1 cls dd σ1 H1 p er rs
 | @pl y C mt ms b₀ suite np pos' hds cl l gC hg hm hsu r hdb ih=>
  unfold Gz at h
  cases em:mt x.cls with
  |none=>rw [em] at h;exact h.elim
  |some b=>
   rw [em] at h
   obtain ⟨C1,hC1,hc1,_⟩:=er
   obtain ⟨C2,D2,JM,hD2,hx⟩:=hm _ _ _ hC1 em
   rw [hC1] at JM
   rw [gC] at hD2
   cases JM
   cases hD2
   subst hc1
   refine ⟨b,hx,fun hb a _=>?_,fun hb=>?_⟩
   ·subst hb
    refine ⟨φ1,e1,Ad,p.hr,rs,?_⟩
    dsimp only at h
    revert h
    cases ms e1 Ad with
    |next e2 h2=>exact fun h φ' σ' H' p' r'=>h φ' σ' H' (p.trans p') r'
    |ret d h2=>exact fun h φ' v H' p' r'=>h φ' v H' (p.trans p') r'
    |brk e2 h2=>exact fun h φ' σ' H' p' r'=>h φ' σ' H' (p.trans p') r'
    |cnt e2 h2=>exact fun h φ' σ' H' p' r'=>h φ' σ' H' (p.trans p') r'
    |exc z e2 h2=>exact fun h=>h.elim
    |bad=>exact fun h=>h.elim
   ·subst hb
    exact ih h
 | @nm y C mt n i ms b₀ suite np pos' hds cl l hN hi hln gC hg hm hsu un r hdb ih=>
  unfold Gz at h
  cases em:mt x.cls with
  |none=>rw [em] at h;exact h.elim
  |some b=>
   rw [em] at h
   have er':=er
   obtain ⟨C1,hC1,hc1,hd1,hd2⟩:=er'
   obtain ⟨C2,D2,JM,hD2,hx⟩:=hm _ _ _ hC1 em
   rw [hC1] at JM
   rw [gC] at hD2
   cases JM
   cases hD2
   subst hc1
   refine ⟨b,hx,fun hb a _=>?_,fun hb=>?_⟩
   ·subst hb
    dsimp only at h
    cases ez:Dj x with
    |none=>rw [ez] at h;exact h.elim
    |some z=>
     rw [ez] at h
     dsimp only at h
     have hz:(z=none→dd=none)∧(∀r,z=some r→∃d,dd=some d)∧RD X.K φ1 Ad.length H1 (Ac (a,dd.getD 0) z) (.ref a):=by
      unfold Dj at ez
      cases fl:x.JK with
      |nil=>
       rw [fl] at ez
       cases ez
       exact ⟨fun _=>hd1 fl,fun r hr=>(by cases hr),.Cg a⟩
      |cons f fs=>
       obtain ⟨dx,vs,e1,e2,rf⟩:=hd2 (by rw [fl];simp)
       rw [fl] at ez rf
       obtain ⟨fn,d⟩:=f
       cases fs with
       |cons g gs=>cases ez
       |nil=>
        dsimp only at ez
        split at ez
        ·rename_i XQ
         cases ez
         subst XQ e1
         refine ⟨fun hr=>(by cases hr),fun r _=>⟨dx,rfl⟩,?_⟩
         cases rf with
         |cons r1 r2=>
          cases r2
          exact .Bv a dx e2 r1
        ·cases ez
     obtain ⟨z0,z1,rz⟩:=hz
     refine ⟨x,C1,hC1,rfl,fun e=>z0 (by rw [ez] at e;exact Option.some.inj e),fun r e=>z1 r (by rw [ez] at e;exact Option.some.inj e),φ1,e1.set i (some (Ac (a,dd.getD 0) z)),Ad,p.hr,rs.set rz i,?_⟩
     have u:=un x (0,0) (a,dd.getD 0) z e1 Ad
     revert h u
     cases ms x (0,0) (e1.set i (some (Ac (0,0) z))) Ad with
     |ret d h2=>
      intro q u
      dsimp only at u q
      rw [u]
      exact fun φ' v H' p' r'=>q φ' v H' (p.trans p') r'
     |next e2 h2=>
      rintro q ⟨e0,us,ue⟩
      dsimp only at q
      rw [ue]
      subst us
      rw [List.set_set] at q
      refine fun φ' σ' H' p' r'=>q φ' _ H' (p.trans p') ?_
      have:=r'.clear i
      rw [List.set_set] at this
      exact this
     |cnt e2 h2=>
      rintro q ⟨e0,us,ue⟩
      dsimp only at q
      rw [ue]
      subst us
      rw [List.set_set] at q
      refine fun φ' σ' H' p' r'=>q φ' _ H' (p.trans p') ?_
      have:=r'.clear i
      rw [List.set_set] at this
      exact this
     |brk e2 h2=>intro q;exact q.elim
     |exc z e2 h2=>intro q;exact q.elim
     |bad=>intro q;exact q.elim
   ·subst hb
    exact ih h
theorem T_{body:List Stmt}{mb:MS}{h₀:ExceptHandler}{hds:List ExceptHandler}{cl:List GF}{l:List ClX}{pos:Pos}(hs:X.stack=X.env::X.outer)(hf:X.env.frame=some X.env.locals)(tk:Takes X W)
  (hb:∀(W':WX) (pn:List (Addr×Obj)) (xe:Value→Shared→Prop),Takes (X.tr pn xe) W'→PassesOwn (model X.prog X.w) X.A X.env xe→Cp (X.tr pn xe) W' body mb)
  (hh:Cz X (h₀::hds) cl l):QS X W (.Try body (h₀::hds) [] [] pos) (Jg mb cl):=by
 refine psI (aq hs hf tk (tb:=fun W'=>Im X.K X.mg W' mb) hb hh.ok) fun D σ H ⟨φ,env,lh,h1,h2,q⟩=>?_
 refine ⟨φ,env,lh,h1,h2,?_⟩
 unfold Jg at q
 revert q
 cases mb env lh with
 |next e2 l2=>exact fun q=>q
 |ret d l2=>exact fun q=>q
 |brk e2 l2=>exact fun q=>q
 |cnt e2 l2=>exact fun q=>q
 |exc x e1 Ad=>exact fun q φ1 cls dd σ1 H1 p er rs=>YL hh p er rs q
 |bad=>exact fun q=>q
structure MP(K:PySem.W.Frag)(mg:Str→Option Value)(rt:String→Bool):Prop where
 ex:∀x C,mg (Str.ofString x)=some (.ref C)→rt x=true→XfC K C∧PySem.W.findIn K (.ref C) (Str.ofString "reason")=some none
theorem Tz{a C0:Addr}{oe:Obj}{pn:List (Addr×Obj)}{e:Expr}{ma:M D}{x:XO}{d:Option Addr}{pos:Pos}{rt:String→Bool}(k:MP X.K X.mg rt)(q:G6 X.mg x C0 d oe)
  (he:QE (X.suite a ((a,oe)::pn)) W e ma) (hb:attributeBase e (Str.ofString "reason") X.env (eval e X.env)=eval e X.env:=by rfl):
  QE (X.suite a ((a,oe)::pn)) W (.Attribute e (Str.ofString "reason") pos) (HS rt x (a,d.getD 0) ma):=by
 by_cases hr:Nb rt x=true
 ·have hr':=hr
  unfold Nb at hr
  rw [Bool.and_eq_true] at hr
  obtain ⟨xf,hno⟩:=k.ex x.cls C0 q.gC hr.1
  obtain ⟨r0,Xe⟩:∃r,Dj x=some (some r):=by
   have:=hr.2
   split at this
   ·rename_i r e;exact ⟨r,e⟩
   ·cases this
  obtain ⟨dx,rfl⟩:=q.d1 r0 Xe
  refine Bt (pe_xf xf hno q.z q.f he hb) fun σ φ env lh H Q h1 h2 g=>?_
  refine rd_of h1 h2 (wp_step g fun v Ad φ1 u H1 p1 r1 q1=>?_)
  split at q1
  ·rename_i a' dx' r
   split at q1
   ·rename_i c
    obtain ⟨c1,c2,_⟩:=c
    cases r1 with
    |Bv _ _ hX rr=>
     subst c1 c2
     exact ⟨rfl,rfl,_,_,_,rfl,hX,R6 rfl,Av q1 (.refl p1.hr) rr⟩
   ·exact q1.elim
  ·exact q1.elim
 ·refine ⟨fun pins s σ H Q I ⟨φ,env,lh,h1,h2,g⟩=>?_⟩
  refine attr_of hb (thn (he.run pins s σ H (fun _ _=>False) I ⟨φ,env,lh,h1,h2,wp_step g fun v Ad φ1 u H1 p1 r1 q1=>?_⟩) fun u s1 hh=>?_)
  ·split at q1
   ·split at q1
    ·rename_i c
     exact absurd c.2.2 hr
    ·exact q1.elim
   ·exact q1.elim
  ·obtain ⟨_,_,_,_,f⟩:=hh
   exact f.elim
end
end HM
namespace HM
open PySem L2 PySem.Spec PyProof.Rows
def Ji(C:Addr):Sp:=fun vs H Q E=>∃a v,vs=[.ref a,v]∧H a=some (exo a C none)∧∀dx,H dx=none→dx≠a→Q .non (upd (upd H dx (exd dx [(Str.ofString "reason",v)])) a (exo a C (some dx)))
structure Iw(K:PySem.W.Frag)(C:Addr):Prop where
 T:OexC K C
 no:PySem.W.findIn K (.ref C) (Str.ofString "reason")=some none
theorem aN{CX:CXT}{P:Program}{w:World}{K:PySem.W.Frag}{mg:Str→Option Value}{base:Heap}{x qual:Str}{st:Stmt}{f C:Addr}{fd:FuncData}{k:Nat}{p1 p2 p3 p4:Pos}(F:Fun K x qual st f fd)(S:FnScope [Str.ofString "self",Str.ofString "reason"] [Str.ofString "self",Str.ofString "reason"] (defScope st))
  (hb:defBody st=[.Assign [.Attribute (.Name (Str.ofString "self") p1) (Str.ofString "reason") p2] (.Name (Str.ofString "reason") p3) p4]) (l1:(defScope st).names.lookup (Str.ofString "self")=some .local) (l2:(defScope st).names.lookup (Str.ofString "reason")=some .local) (L:Iw K C):
  FnOk P w K mg base CX (k+1) f fd [Str.ofString "self",Str.ofString "reason"] (Ji C):=by
 obtain ⟨oc,od,kV,doc,pm,an,cdv,ct,osl,rfl,lk,hcd⟩:=F.ex
 refine fn_of lk hcd S (fun vs H Q E ⟨a,v,h,_⟩=>by rw [h];rfl) fun A outer s H vs Q E hr hsp=>?_
 obtain ⟨a,v,rfl,ha,hq⟩:=hsp
 rw [hb]
 refine ⟨_,pss_one (ps_ost (pv 0 (hv:=.inl l1)) (pv 1 (hv:=.inl l2))),?_⟩
 exact ⟨v,rfl,_,rfl,a,C,rfl,L.T,L.no,.inl ⟨ha,fun dx h1 h2=>hq dx h1 h2⟩⟩
structure Jx(P:Program)(w:World)(K:PySem.W.Frag)(mg:Str→Option Value)(base:Heap)(x:String):Prop where
 ex:∃C fI fd,mg (Str.ofString x)=some (.ref C)∧Iw K C∧PySem.W.findIn K (.ref C) "__init__"=some (some (.ref fI))∧PySem.W.typeIn K (.ref fI)=some (.type "function")∧Binds K fd [Str.ofString "self",Str.ofString "reason"] []∧
  FnOk P w K mg base CX0 1 fI fd [Str.ofString "self",Str.ofString "reason"] (Ji C)
def Gy(x:String)(m:M D):MS:=fun e h=>Ay (m e h) e fun d h1=>.exc ⟨x,[("reason",d)]⟩ e h1
section
variable{X:Cx}{W:WX}
theorem Z6{K:PySem.W.Frag}{mg:Str→Option Value}{x:String}{C:Addr}{σ:L2.St}{H:Hp}{φ:Nat→Addr}{lh:LH}{v:V}{d:D}{env:EN}{D':Ends}(gC:mg (Str.ofString x)=some (.ref C))(h1:HR K mg φ lh H)(h2:RS K φ lh.length H env σ)(r:RD K φ lh.length H d v)
  (q:wps K mg W (.exc ⟨x,[("reason",d)]⟩ env lh) φ lh H D'):[v].length≤1000∧∀a,H a=none→Ji C (.ref a::([v]++[])) (upd H a (exo a C none))
   (fun v H2=>v=.non∧∃(d:Addr) (fs:List (Str×V)),H2 a=some (exo a C (some d))∧H2 d=some (exd d fs)∧H d=none∧W (.ref C) (some d) σ (upd (del H2 a) d (.xd fs))) (fun _ _ _=>False):=by
 refine ⟨by simp,fun a ha=>⟨a,v,rfl,upd_same,fun dx hdx hne=>⟨rfl,dx,[(Str.ofString "reason",v)],upd_same,?_,?_,?_⟩⟩⟩
 ·rw [upd_ne hne,upd_same]
 ·rw [upd_ne hne] at hdx;exact hdx
 ·have YT:H dx=none:=by rw [upd_ne hne] at hdx;exact hdx
  have e:upd (del (upd (upd (upd H a (exo a C none)) dx (exd dx [(Str.ofString "reason",v)])) a (exo a C (some dx))) a) dx (.xd [(Str.ofString "reason",v)])=upd H dx (.xd [(Str.ofString "reason",v)]):=by
   funext b
   by_cases hb:b=dx
   ·subst hb;rw [upd_same,upd_same]
   ·rw [upd_ne hb,upd_ne hb]
    by_cases ha2:b=a
    ·subst ha2;rw [del_same];exact ha.symm
    ·rw [del_ne ha2,upd_ne ha2,upd_ne hb,upd_ne ha2]
  rw [e]
  have P:Po K mg φ lh H φ lh (upd H dx (.xd [(Str.ofString "reason",v)])):=Po.side h1 YT
  exact q φ (.ref C) (some dx) σ _ P ⟨C,gC,rfl,fun h=>(by cases h),fun _=>⟨dx,_,rfl,upd_same,.cons (r.up P) .nil⟩⟩ (h2.up P)
theorem K6{x:String}{e:Expr}{ma:M D}{p pos pos':Pos}(hc:X.calm=true)(tk:Takes X W)(T:Jx X.prog X.w X.K X.mg X.base x)(hr:Room 2 X.A)(hg:Gl X (Str.ofString x))(ha:QE X W e ma)(hdb:(Str.ofString x==("__debug__":Str))=false:=by decide+kernel)
  (he:starEach [e] X.env=(false,eval e X.env)::starEach [] X.env:=by rfl) (hpl:(backTo pos (starEach [] X.env)).any (·.1)=false:=by rfl):
  QS X W (.Raise (some (.Call (.Name (Str.ofString x) p) [e] [] pos)) none pos') (Gy x ma):=by
 obtain ⟨C,fI,fd,gC,L,iC,tI,hb,F1⟩:=T.ex
 refine psI (ps_raise hc tk (pmk_oex L.T iC tI F1 hr hb .nil (fun _ _ _ _ _ _ _ h=>h.elim) hg gC (Ai ha Ba he) hdb he hpl)) fun D σ H ⟨φ,env,lh,h1,h2,q⟩=>?_
 have q':wps X.K X.mg W (Gy x ma env lh) φ lh H D:=q
 unfold Gy at q'
 have q2:wps X.K X.mg W (Ay (Ab ma Ag env lh) env fun ds h1=>match ds with
  |[d]=>.exc ⟨x,[("reason",d)]⟩ env h1
  |_=>.bad) φ lh H D:=by
  revert q'
  unfold Ab
  cases ma env lh with
  |ok d l=>exact fun z=>z
  |exc z l=>exact fun z=>z
  |bad=>exact fun z=>z
 refine rd_of h1 h2 (G5 h2 q2 fun ds Ad φ1 vs H1 p1 r1 q1=>?_)
 split at q1
 ·rename_i d
  obtain ⟨v,rfl,rv⟩:=r1.one
  exact Z6 gC p1.hr (h2.up p1) rv q1
 ·exact q1.elim
end
end HM
namespace PySem.W
open PySem PySem.Spec PySem.Calls PyProof.Rows
section
variable{prog:Program}{w:World}{A:Around}{E:Value→Shared→Prop}{s:Shared}{K:Frag}{x D:Addr}{ox:Obj}{od:Option Obj}
theorem ZM{Q:Option Value→Shared→Prop}(hga:findIn K (.ref D) "__getattribute__"=some (some (.builtin "BaseException.__getattribute__")))(hgt:findIn K (.ref D) "__getattr__"=some none)(hsub:subIn K (.ref D) (.type "BaseException")=some true)
  (hdct:hasDictIn K D=true) (ha:findIn K (.ref D) "__class__"=some (some (.builtin "object.__class__")))
  (hn:specialIn K (.builtin "object.__class__") "__get__"=some (some (.builtin "getset_descriptor.__get__"))) (htk:takesIn K (.builtin "object.__class__")=some true) (hm:mroIn K D (.type "object")=some true)
  (X:K.In s.heap) (I:InstAt s.heap x ox D od) (h:Q (some (.ref D)) {s with toks:=s.toks+1}):wpAny (model prog w) A (getAttr? (.ref x) "__class__") Q E s:=by
 have hf:findObj K D od "__class__"=some (.bind (.builtin "getset_descriptor.__get__") (.builtin "object.__class__")):=by
  cases od with
  |none=>exact findObj_dataN (by obtain ⟨cd,hc,_⟩:=any_some hdct;rw [hc];rfl) ha hn htk
  |some o=>exact findObj_data (by obtain ⟨cd,hc,_⟩:=any_some hdct;rw [hc];rfl) ha hn htk
 obtain ⟨hp,g,d,t,os⟩:=s
 have L0:=I.type (M:=model prog w)
 have L1:=looks_findIn (M:=model prog w) X hga
 have L2:=looks_findIn (M:=model prog w) X hgt
 have L3:=looks_find (M:=model prog w) X I hf
 have sub:Looks (model prog w) hp (isInstance (.ref x) (.type "BaseException")) true:=L0.andThen (looks_subIn X hsub)
 have hx0:(false&&onTheHeap (Value.builtin "BaseException.__getattribute__"))=false:=rfl
 have hx2:(Value.builtin "BaseException.__getattribute__"==Value.builtin "object.__getattribute__")=false:=by decide+kernel
 have hx1:(onTheHeap (Value.ref D)&&Value.builtin "BaseException.__getattribute__"==Value.builtin "object.__getattribute__")=false:=by rw [hx2];rfl
 unfold getAttr? getAttrBy? getAttrBy
 refine wpAny_bind (wpAny_mkText (wpAny_bind (wpAny_attempt (wpAny_holding (wpAny_bind (L0.at (wpAny_bind (L1.at ?_))))))))
 show wpAny _ _ (if (onTheHeap (Value.ref D)&&Value.builtin "BaseException.__getattribute__"==Value.builtin "object.__getattribute__")=true then _ else _) _ _ _
 rw [hx1,if_neg Bool.false_ne_true]
 unfold getAttrByItsOwn hookBefore
 refine wpAny_bind ?_
 rw [if_pos (show onTheHeap (Value.ref D)=true from rfl)]
 refine L2.at ?_
 refine wpAny_bind (wpAny_attempt (wpAny_holding ?_))
 unfold callGetattribute
 rw [hx0,if_neg Bool.false_ne_true]
 unfold boundAndCalled
 rw [PySem.F.excAttr_ValueError.ga.bind (.ref x)]
 refine wpAny_bind (wpAny_pure ?_)
 show wpAny _ _ (call (.builtin "BaseException.__getattribute__") [.ref x,.str "__class__" t]) _ _ _
 refine wpAny_call (codeAny_call_builtin PySem.F.excAttr_ValueError.ga.plain PySem.F.entry_bexc_ga ?_)
 refine @check_slot (model prog w) _ _ ⟨hp,g,d,t+1,os⟩ "BaseException.__getattribute__" "BaseException" "__getattribute__" (.ref x) [.str "__class__" t] [] _ (by decide+kernel) (by decide+kernel) sub (PySem.F.args_bexc_ga (.ref x) (.str "__class__" t)) ?_
 unfold Builtin.«object.__getattribute__»
 refine wpAny_bind (wpAny_of_eq (a:=((Value.ref x:Value),[Value.str "__class__" t])) (by first|rfl|(simp only [slotArgs];rfl)) ?_)
 refine wpAny_bind (wpAny_pure (wpAny_bind (L0.at (wpAny_bind (L3.at ?_)))))
 show wpAny _ _ (holding [Value.builtin "object.__class__"] (call (.builtin "getset_descriptor.__get__") [.builtin "object.__class__",.ref x,.ref D])>>=ret) _ _ _
 refine wpAny_bind (wpAny_holding (wpAny_call (class_get (s:=⟨hp,g,d,t+1,os⟩) (ox:=ox) (od:=od) X I hm ?_)))
 refine wpAny_pure ?_
 show wpAny _ _ (handedOut (.ref D)) _ _ _
 rw [handedOut_of (v:=.ref D) rfl]
 first
  |exact wpAny_pure (wpAny_pure h)
  |exact wpAny_pure h
  |exact wpAny_pure (wpAny_bind (wpAny_pure (wpAny_pure h)))
theorem ZV(hga:findIn K (.ref D) "__getattribute__"=some (some (.builtin "BaseException.__getattribute__")))(hgt:findIn K (.ref D) "__getattr__"=some none)(hsub:subIn K (.ref D) (.type "BaseException")=some true)(hdct:hasDictIn K D=true)(ha:findIn K (.ref D) "__class__"=some (some (.builtin "object.__class__")))
  (hn:specialIn K (.builtin "object.__class__") "__get__"=some (some (.builtin "getset_descriptor.__get__"))) (htk:takesIn K (.builtin "object.__class__")=some true) (hm:mroIn K D (.type "object")=some true):
  KitX K (.ref x) (.ref D) (fun h=>∃od,InstAt h x ox D od) where
 ty:=fun _ _ _ ⟨od,I⟩=>I.type
 it:=fun _ _ X _=>by
  obtain ⟨cdD,hcD,_⟩:=any_some hdct
  unfold clsIn at hcD
  split at hcD
  ·rename_i c' d' cd' sl' ho
   intro A' Q' E' s' k q
   unfold isType loadHead
   exact wpAny_bind (wpAny_loadPart (k _ _ (X _ _ ho)) (wpAny_pure q))
  ·cases hcD
 ne:=fun h tp dd its n sl X htp=>by
  obtain ⟨cdD,hcD,_⟩:=any_some hdct
  refine Bool.eq_false_iff.mpr fun q=>?_
  have e:D=tp:=Value.ref.inj (beq_iff_eq.mp q)
  subst e
  unfold clsIn at hcD
  split at hcD
  ·rename_i c' d' cd' sl' ho
   have z:=(X _ _ ho).symm.trans htp
   cases z
  ·cases hcD
 ca:=fun X ⟨od,I⟩ k=>ZM hga hgt hsub hdct ha hn htk hm X I k
end
end PySem.W
namespace HM
open PySem L2 PySem.Spec PyProof.Rows
def bO(K:PySem.W.Frag)(D a:Addr)(d:Option Addr):List V→Hp→VK→Prop:=fun xs H Q=>∃(c:V) (cv:Value) (b:Bool),xs=[.ref a,c]∧(d=none∨∃dx fs,d=some dx∧H dx=some (.xd fs))∧(∀u,RelV c u→u=cv)∧PySem.W.kitOne K (.ref D) cv=some b∧Q (.bl b) H
section
variable{X:Cx}{W:WX}
end
end HM
namespace HM
open PySem L2 PySem.Spec PyProof.Rows
inductive Hj(K:PySem.W.Frag)(φ:Nat→Addr)(n:Nat)(H:Hp):List (D×D)→List (V×V)→Prop
 |nil:Hj K φ n H [] []
 |cons {x y:D} {u v:V} {ds vs}:RD K φ n H x u→RD K φ n H y v→Hj K φ n H ds vs→Hj K φ n H ((x,y)::ds) ((u,v)::vs)
section
variable{K:PySem.W.Frag}{mg:Str→Option Value}{φ φ':Nat→Addr}{lh Ae:LH}{H H':Hp}
theorem Hj.up(p:Po K mg φ lh H φ' Ae H'){ds vs}(r:Hj K φ lh.length H ds vs):Hj K φ' Ae.length H' ds vs:=by
 induction r with
 |nil=>exact .nil
 |cons a b _ ih=>exact .cons (a.up p) (b.up p) ih
end
section
variable{X:Cx}{W:WX}
end
def VD:List KD→Option (List (List Nat))
 |[]=>some []
 | .inr s::r=>(VD r).map fun l=>s::l
 | .inl _::_=>none
def Wy:MF:=fun xs h=>match xs with
 |[x]=>(match En x h with
  |some (_,.k kvs)=>(match VD (kvs.map (·.1)) with
   |some ss=>if ss.length≤1000000 then .ok (.ref h.length) (h++[.lst ((Uy ss).map D.str)]) else .bad
   |none=>.bad)
  |some _=>.bad
  |none=>Wx [x] h)
 |_=>.bad
end HM
namespace HM
open PySem L2 PySem.Spec PyProof.Rows
section
variable{X:Cx}{W:WX}
end
def Zu:M D:=fun _ h=>.ok (.ref h.length) (h++[.dT []])
end HM
namespace HM
open PySem L2 PySem.Spec PyProof.Rows
section
variable{X:Cx}
end
end HM
namespace HM
open PySem L2 PySem.Spec PyProof.Rows
def tx(e:Int×Value):Str:=match e.2 with
 | .str k _=>k
 |_=>Str.empty
def Vv(P:Program)(w:World)(e:Int×Value):Prop:=∃k tk,e.2=Value.str k tk∧e.1=(strKind P w).hash k
structure MJ(P:Program)(w:World)(h:Heap)(a:Addr)(L:List Str)(o:Obj)(es:Array (Int×Value))(ep:Nat)(t:SetTable):Prop where
 fo:h.get? a=some o
 fx:o.ExactSet
 fd:o.data=Data.set es ep t
 fe:∀e∈es.toList,Vv P w e
 fp:(es.toList.map tx).Perm L
 fn:L.Nodup
 ff:t.fits es.size=true
 fr:Ris t.place.toList
 fl:w.params.followText "set-order"=true∨t.led=true
def MN(P:Program)(w:World)(h:Heap)(a:Addr)(L:List Str):Prop:=∃o es ep t,MJ P w h a L o es ep t
section
variable{P:Program}{w:World}{A:Around}{E:Value→Shared→Prop}{s:Shared}{a:Addr}{L:List Str}{o:Obj}{es:Array (Int×Value)}{ep:Nat}{t:SetTable}
theorem MJ.mem{h:Heap}(u:MJ P w h a L o es ep t)(k:Str):k∈L↔∃e∈es.toList,(strKind P w).is k e.2=true:=by
 rw [←u.fp.mem_iff,List.mem_map]
 constructor
 ·rintro ⟨e,he,rfl⟩
  obtain ⟨k,tk,h1,_⟩:=u.fe e he
  refine ⟨e,he,?_⟩
  unfold tx
  rw [h1]
  exact strKind_is P w k tk
 ·rintro ⟨e,he,q⟩
  obtain ⟨k',tk,h1,_⟩:=u.fe e he
  refine ⟨e,he,?_⟩
  rw [h1] at q
  unfold tx
  rw [h1]
  simpa [PySem.strKind,Value.isStrOf] using q
theorem MN.at{h h':Heap}(u:MN P w h a L)(k:∀o,h.get? a=some o→h'.get? a=some o):MN P w h' a L:=by
 obtain ⟨o,es,ep,t,q⟩:=u
 exact ⟨o,es,ep,t,k o q.fo,q.fx,q.fd,q.fe,q.fp,q.fn,q.ff,q.fr,q.fl⟩
end
section
variable{P:Program}{w:World}{A:Around}{E:Value→Shared→Prop}{s:Shared}
end
end HM
namespace HM
open PySem L2 PySem.Spec PyProof.Rows
section
variable{P:Program}{w:World}{A:Around}{E:Value→Shared→Prop}{s:Shared}
set_option maxRecDepth 100000 in
set_option maxHeartbeats 3200000 in
set_option maxRecDepth 100000 in
set_option maxHeartbeats 3200000 in
end
end HM
namespace HM
open PySem L2 PySem.Spec PyProof.Rows
end HM
namespace HM
open PySem L2 PySem.Spec PyProof.Rows
section
variable{X:Cx}{W:WX}{o e:Expr}{mo:M D}{Bl:M (List D)}{apos cpos:Pos}
end
end HM
namespace HM
open PySem L2 PySem.Spec PyProof.Rows
def GT(K:PySem.W.Frag)(mg:Str→Option Value)(x:Str)(ss:List String):Prop:=
 ∃(a:Addr) (o:Obj) (its:Array Value) (n:Nat),mg x=some (.ref a)∧K.lookup a=some o∧o.cls=.type "tuple"∧o.dict=none∧o.data=.seq its n∧its.size≤sizeLine∧Vals (ss.map fun s=>V.str (Str.ofString s)) its.toList
theorem Aj.Ss{K:PySem.W.Frag}{φ:Nat→Addr}{n:Nat}{H:Hp}:∀ss:List String,Aj K φ n H (ss.map S) (ss.map fun s=>V.str (Str.ofString s))
 |[]=>.nil
 |s::ss=>.cons (bU _) (Aj.Ss ss)
section
variable{X:Cx}{W:WX}{o e:Expr}{ma:M D}{apos cpos:Pos}
theorem T6{x:Str}{ss:List String}{pos:Pos}(hg:Gl X x)(hm:GT X.K X.mg x ss)(hdb:(x==("__debug__":Str))=false:=by decide):QE X W (.Name x pos) (mC (.tup (ss.map S))):=by
 obtain ⟨a,o,its,n,h1,h2,h3,h4,h5,h6,h7⟩:=hm
 exact T5 hg h1 (v:=.ref a) rfl (fun φ n' H=>.tup (.inr ⟨o,its,n,h2,h3,h5,h6,h7⟩) (Aj.Ss ss)) hdb
end
end HM
namespace HM
open PySem L2
section
variable{X:Cx}
end
end HM
namespace HM
open PySem L2 PySem.Spec PyProof.Rows
section
variable{X:Cx}{W:WX}{kx elt tg iter:Expr}{ifs:List Expr}{scope:Scope}{own:List (Str×Nat)}{pos:Pos}{mi:M (IT×Nat)}{t:TN}{mc:M Bool}{mx my:M D}
end
end HM
namespace HM
open PySem L2 PySem.Spec PyProof.Rows
section
variable{X:Cx}{W:WX}{kx elt tg iter:Expr}{ifs:List Expr}{scope:Scope}{own:List (Str×Nat)}{pos:Pos}{mi:M (IT×Nat)}{t:TN}{mc:M Bool}{mx my:M D}
end
end HM
namespace HM
open PySem L2 PySem.Spec PyProof.Rows L2H
structure FnW(P:Program)(w:World)(K:PySem.W.Frag)(mg:Str→Option Value)(base:Heap)(CX:CXT)(k:Nat)(f:Addr)(fd:FuncData)(ps:List Str)(sp:Sp):Prop where
 len:∀vs H Q E,sp vs H Q E→vs.length=ps.length
 run:∀(A:Around) (outer:List Env) (s:Shared) (H:Hp) (args:Args) (us:List Value) (vs:List V) (Q:VK) (E:XK) (p:Addr×Obj),RoomH k A→PinOk outer H s p→Env0 P w K mg base A outer s H→BindsTo s fd args (ps.zip us)→Vals vs us→sp vs H Q E→
  codeAny (model P w) A (.call (.ref f) args) (CR CX outer P w H s Q E) s
section
variable{X:Cx}{CX:CXT}{k:Nat}{f C:Addr}{fd:FuncData}{ps:List Str}{sp:Sp}{E:L2.St→XK}{x m:Str}{q pos apos:Pos}{e o:Expr}{es:List Expr}{ta:TE}{t:TA}
end
structure iV(CX:CXT)(P:Program)(w:World)(K:PySem.W.Frag)(mg:Str→Option Value)(base:Heap)(k:Nat)(c m:String)(f:MF):Prop where
 ex:∃C fa fd ps,mg (Str.ofString c)=some (.ref C)∧Cls K C∧Meth K C (Str.ofString m) fa∧Binds K fd ps []∧FnW P w K mg base CX k fa fd ps (Ck K mg f)
section
variable{X:Cx}{W:WX}{CX:CXT}{k:Nat}{e o:Expr}{es:List Expr}{ma mo:M D}{Bl:M (List D)}{pos apos p:Pos}
end
end HM
namespace HM
open PySem L2 PySem.Spec PyProof.Rows L2H
structure Iu(p:Addr×Obj)(P:Program)(w:World)(K:PySem.W.Frag)(mg:Str→Option Value)(base:Heap)(CX:CXT)(k:Nat)(f:Addr)(fd:FuncData)(ps:List Str)(sp:Sp):Prop where
 len:∀vs H Q E,sp vs H Q E→vs.length=ps.length
 run:∀(A:Around) (outer:List Env) (s:Shared) (H:Hp) (args:Args) (us:List Value) (vs:List V) (Q:VK) (E:XK),RoomH k A→PinOk outer H s p→Env0 P w K mg base A outer s H→BindsTo s fd args (ps.zip us)→Vals vs us→sp vs H Q E→
  codeAny (model P w) A (.call (.ref f) args) (CR CX outer P w H s Q E) s
theorem Xp{p:Addr×Obj}{CX:CXT}{P:Program}{w:World}{K:PySem.W.Frag}{mg:Str→Option Value}{base:Heap}{k:Nat}{f:Addr}{name qual:Str}{params:Arguments}{body:List Stmt}{scope:Scope}{dV kV doc pm cdv ct oc:Value}{an od:Option Addr}
  {osl:Array (Option Value)} {N ps:List Str} {sp:Sp} (lk:K.lookup f=some ⟨oc,od,.func (PySem.W.fnOf name qual params body scope dV kV doc pm an cdv ct),osl⟩) (hcd:PySem.W.codeIn K cdv qual=true) (S:FnScope N ps scope)
  (len:∀vs H Q E,sp vs H Q E→vs.length=ps.length)
  (hbody:∀(A:Around) (outer:List Env) (s:Shared) (H:Hp) (vs:List V) (Q:VK) (E:XK),RoomH k (A.deeper (envOfC qual scope s.heap.objs.size f cdv))→sp vs H Q E→
   ∃t,PSs (cxH CX P w K mg base N qual scope f cdv A outer s H E p) body t∧t {nx:=fun _ H'=>Q .non H',rt:=Q} (L2.start N vs) H):
  Iu p P w K mg base CX (k+1) f (PySem.W.fnOf name qual params body scope dV kV doc pm an cdv ct) ps sp:=by
 refine ⟨len,fun A outer s H args us vs Q E hr hpin e0 hb r hsp=>?_⟩
 have KX:K.In s.heap:=e0.mod.kin.keeps fun b o e=>(e0.bs b o e).1
 have lim:s.heap.NoLimit:=e0.mod.nolimit.keeps fun b o e=>(e0.bs b o e).1
 have hkind:∀y∈ps.zip us,scope.names.lookup y.1=some .local∨(scope.names.lookup y.1=some .cell∧((cellsFrom (s.heap.objs.size+1) scope.names []).lookup y.1).isSome=true):=by
  intro y hy
  rcases S.par y.1 (List.of_mem_zip hy).1 with q|q
  ·exact .inl q
  ·exact .inr ⟨q,PySem.W.cellsFrom_some _ _ _ (.inl q)⟩
 refine codeAny_call_function hr.depth (KX _ _ lk) rfl S.co S.gen rfl (PySem.W.codeRec_of KX hcd) (hb _ _ _ _ ?_)
 refine wpAny_newFunctionEnv_cells S.kind hkind fun env he s1 x=>?_
 subst he
 refine ⟨lim.keeps x.toInCall.keep,codeAny_func ?_⟩
 obtain ⟨t,ht,hq⟩:=hbody A outer s H vs Q E (hr.deeper _) hsp
 have I:=inv_startH (CX:=CX) (E:=E) S hpin e0 (len _ _ _ _ hsp) r x
 refine wpAny_mono (ht.run [] s1 (L2.start N vs) H _ I hq) (fun fl s' hs=>?_) fun e s' hs=>hs
 cases fl with
 |ret u=>
  obtain ⟨v,σ',H',J,rv,q⟩:=hs
  exact ⟨v,H',J.os,J.bare,J.base,J.hok,rv,q⟩
 |next=>
  obtain ⟨σ',H',J,q⟩:=hs
  exact ⟨.non,H',J.os,J.bare,J.base,J.hok,rfl,q⟩
 |brk=>
  obtain ⟨_,_,_,q⟩:=hs
  exact False.elim q
 |cont=>
  obtain ⟨_,_,_,q⟩:=hs
  exact False.elim q
section
variable{X:Cx}{CX:CXT}{k:Nat}{f C:Addr}{fd:FuncData}{ps:List Str}{sp:Sp}{E:L2.St→XK}{x m:Str}{q pos apos:Pos}{e o:Expr}{es:List Expr}{ta:TE}{t:TA}
theorem bx{p:Addr×Obj}{pins:List (Addr×Obj)}{σ:L2.St}{H:Hp}{s:Shared}{Q:VK}{us:List Value}{vs:List V}(F:Iu p X.prog X.w X.K X.mg X.base CX k f fd ps sp)(hr:RoomH k X.A)(hp:p∈X.pn)(hb:Binds X.K fd ps [])(hx:PassesAt CX X σ (E σ))
  (I:Inv X pins σ H s) (r:Vals vs us) (h:sp vs H Q (E σ)):wpAny (model X.prog X.w) X.A (call (.ref f) us) (EP X pins σ Q) X.xe s:=by
 have b:=hb s us I.kIn (by rw [List.append_nil,←r.length];exact F.len _ _ _ _ h)
 rw [List.append_nil] at b
 have P1:=I.pin p (List.mem_append_left _ hp)
 have hpin:PinOk X.stack H s p:=⟨P1.1,P1.2.1,fun hm=>(List.mem_cons.mp (I.stkSub p.1 hm)).elim P1.2.2.1 P1.2.2.2.1,P1.2.2.2.2⟩
 refine wpAny_call (codeAny_mono (F.run X.A X.stack s H ⟨us,[]⟩ us vs Q (E σ) hr hpin I.env0 b r h) fun r s' hq=>?_)
 cases r with
 |error e=>exact hx pins H s e s' I hq
 |ok fl=>
  cases fl with
  |ret u=>exact I.after hq
  |next=>exact False.elim hq
  |brk=>exact False.elim hq
  |cont=>exact False.elim hq
theorem aX{p:Addr×Obj}{pp:Pos}(F:Iu p X.prog X.w X.K X.mg X.base CX k f fd ps sp)(hr:RoomH k X.A)(hp:p∈X.pn)(hg:Gl X x)(hm:X.mg x=some (.ref f))(hk:PySem.W.keepIn X.K (.ref f)=true)(hb:Binds X.K fd ps [])(hx:∀σ,PassesAt CX X σ (E σ))
  (ha:PA X (e::es) t) (hdb:(x==("__debug__":Str))=false:=by decide) (he:starEach (e::es) X.env=(false,eval e X.env)::starEach es X.env:=by rfl) (hpl:(backTo pos (starEach es X.env)).any (·.1)=false:=by rfl):
  PE X (.Call (.Name x pp) (e::es) [] pos) (tCallS sp E t):=by
 refine ⟨fun pins s σ H Q I h=>?_⟩
 refine wpAny_Call_Name_kw (ld_glob I hg hm ?_ hdb)
 refine PySem.W.callWith_K (h₀:=X.base) I.ok.mod.kin hk (thn (ha.run pos pins s σ H _ I h) fun us s1 ⟨vs,H1,I1,r,q⟩=>⟨I1.kIn,?_⟩) he hpl
 exact bx F hr hp hb (hx σ) I1 r q
structure Ls(P:Program)(w:World)(K:PySem.W.Frag)(mg:Str→Option Value)(base:Heap)(k:Nat)(n:String)(f:XO→Addr×Addr→MF):Prop where
 ex:∃fa fd ps,mg (Str.ofString n)=some (.ref fa)∧PySem.W.keepIn K (.ref fa)=true∧Binds K fd ps []∧∀(a:Addr) (oe:Obj) (x:XO) (C0:Addr) (d:Option Addr),G6 mg x C0 d oe→Iu (a,oe) P w K mg base (L2.CX P w) k fa fd ps (Ck K mg (f x (a,d.getD 0)))
theorem bH{W:WX}{a C0:Addr}{oe:Obj}{d:Option Addr}{x:XO}{n:String}{f:XO→Addr×Addr→MF}{es:List Expr}{Bl:M (List D)}{p:Pos}(C:Ls X.prog X.w X.K X.mg X.base k n f)(q:G6 X.mg x C0 d oe)(hp:(a,oe)∈X.pn)(hr:RoomH k X.A)(hx:∀σ,PassesAt (L2.CX X.prog X.w) X σ (WE W σ))(hg:Gl X (Str.ofString n))(ha:QA X W (e::es) Bl)
  (hdb:(Str.ofString n==("__debug__":Str))=false:=by decide) (he:starEach (e::es) X.env=(false,eval e X.env)::starEach es X.env:=by rfl) (hpl:(backTo pos (starEach es X.env)).any (·.1)=false:=by rfl):
  QE X W (.Call (.Name (Str.ofString n) p) (e::es) [] pos) (Am (f x (a,d.getD 0)) Bl):=by
 obtain ⟨fa,fd,ps,h1,h2,h3,h4⟩:=C.ex
 have F:=h4 a oe x C0 d q
 refine Bt (aX F hr hp hg h1 h2 h3 hx ha hdb he hpl) fun σ φ env lh H Q g1 g2 q=>?_
 refine rd_of g1 g2 (wp_step q fun xs Ad φ1 vs H1 p1 r1 q1=>?_)
 exact ⟨φ1,Ad,xs,p1.hr,r1,q1⟩
end
theorem okX{p:Addr×Obj}{CX:CXT}{P:Program}{w:World}{K:PySem.W.Frag}{mg:Str→Option Value}{base:Heap}{x qual:Str}{st:Stmt}{f:Addr}{fd:FuncData}{N ps:List Str}{k:Nat}{m:MS}(F:Fun K x qual st f fd)(S:FnScope N ps (defScope st))
  (hb:∀(cdv:Value) (A:Around) (outer:List Env) (s:Shared) (H:Hp) (E:XK),RoomH k (A.deeper (envOfC qual (defScope st) s.heap.objs.size f cdv))→
   Cp (cxH CX P w K mg base N qual (defScope st) f cdv A outer s H E p) (fun c d _ H=>E c d H) (defBody st) m):
  Iu p P w K mg base CX (k+1) f fd ps (Ck K mg (A_ ps.length N.length m)):=by
 have key:∀vs H Q E,Ck K mg (A_ ps.length N.length m) vs H Q E→vs.length=ps.length:=by
  rintro vs H Q E ⟨φ,lh,ds,h1,h2,q⟩
  unfold A_ at q
  by_cases c:ds.length=ps.length
  ·rw [←h2.len];exact c
  ·rw [if_neg c] at q
   exact q.elim
 obtain ⟨oc,od,kV,doc,pm,an,cdv,ct,osl,rfl,lk,hcd⟩:=F.ex
 refine Xp lk hcd S key fun A outer s H vs Q E hr hsp=>⟨_,hb cdv A outer s H E hr,?_⟩
 have hl:=key _ _ _ _ hsp
 obtain ⟨φ,lh,ds,h1,h2,q⟩:=hsp
 have hd:ds.length=ps.length:=by rw [h2.len];exact hl
 have rs:RS K φ lh.length H (ds.map some++List.replicate (N.length-ps.length) none) (L2.start N vs):=by
  have e1:vs.length=ds.length:=h2.len.symm
  refine ⟨by unfold L2.start;simp [h2.len,hl],fun i d hi=>?_⟩
  have hlt:i<ds.length:=by
   rcases Nat.lt_or_ge i ds.length with c|c
   ·exact c
   ·rw [List.getElem?_append_right (by simpa using c)] at hi
    rw [List.getElem?_replicate] at hi
    split at hi<;>simp at hi
  rw [List.getElem?_append_left (by simpa using hlt)] at hi
  have hi':ds[i]? =some d:=by
   rw [List.getElem?_map] at hi
   cases z:ds[i]? with
   |none=>rw [z] at hi;simp at hi
   |some y=>rw [z] at hi;simp at hi;rw [hi]
  obtain ⟨v,ev,r⟩:=h2.get hi'
  refine ⟨v,?_,r⟩
  show (vs.map some++_)[i]? =_
  rw [List.getElem?_append_left (by simp;omega),List.getElem?_map,ev]
  rfl
 refine ⟨φ,_,lh,h1,rs,?_⟩
 unfold A_ at q
 rw [if_pos hd] at q
 show wps K mg _ (m (ds.map some++List.replicate (N.length-ps.length) none) lh) φ lh H _
 revert q
 cases m (ds.map some++List.replicate (N.length-ps.length) none) lh with
 |next e h=>exact fun q φ' σ' H' p _=>q φ' _ H' p .non
 |ret d h=>exact fun q φ' v H' p r=>q φ' v H' p r
 |exc x e h=>exact fun q φ' cls dd σ' H' p r _=>q φ' cls dd H' p r
 |brk e h=>exact fun q=>q.elim
 |cnt e h=>exact fun q=>q.elim
 |bad=>exact fun q=>q.elim
theorem Qt{X:Cx}{a D:Addr}{d:Option Addr}{oe:Obj}(hp:(a,oe)∈X.pn)(C:ExcC X.K D)(hz:Zc (.ref D) d oe)(hf:∃vs,oe.data=.fields vs):CallR X (.builtin "isinstance") (bO X.K D a d):=by
 intro pins s σ H xs us Q I r h
 obtain ⟨c,cv,b,rfl,hd,hcv,e,q⟩:=h
 cases r with
 |cons rx rr=>
  cases rr with
  |cons rt rr=>
   cases rr
   cases rx
   have ec:=hcv _ rt
   subst ec
   obtain ⟨hget,_⟩:=I.pin (a,oe) (List.mem_append_left _ hp)
   obtain ⟨vs,hv⟩:=hf
   have J:∃od,PySem.W.InstAt s.heap a oe D od:=by
    obtain ⟨oc,odd,oda,osl⟩:=oe
    obtain ⟨h1,h2⟩:=hz
    dsimp only at h1 h2 hv
    subst h1 h2 hv
    rcases hd with hd|⟨dx,fs,hd,hx⟩
    ·subst hd
     exact ⟨none,hget,rfl,rfl,trivial⟩
    ·subst hd
     obtain ⟨mA,hns,hr⟩:=(show ObjOk X.prog X.w H s.heap dx (.xd fs) from I.hok dx _ hx)
     obtain ⟨o,ho,_⟩:=lookIn_ns hns
     exact ⟨some o,hget,rfl,rfl,ho⟩
   exact PySem.W.kia_one (PySem.W.ZV C.hg C.hk C.hs C.hd C.ha C.hn C.ht C.hm) I.kIn J e (fun z=>nomatch z) fun tk=>⟨.bl b,H,I.kept (t':=tk) fun _ _ z=>z,rfl,q⟩
def Ju(K:PySem.W.Frag)(mg:Str→Option Value)(y:String)(mt:String→Option Bool):Prop:=∀x b C₀,mg (Str.ofString x)=some (.ref C₀)→mt x=some b→∃C,mg (Str.ofString x)=some (.ref C)∧PySem.W.kitOne K (.ref C) (.type y)=some b∧ExcC K C
section
variable{X:Cx}{W:WX}
theorem Gx{a C0:Addr}{d:Option Addr}{oe:Obj}{e:Expr}{ma:M D}{x:XO}{y:String}{mt:String→Option Bool}{p p2 pos:Pos}(k:El X.K X.mg y mt)(q:G6 X.mg x C0 d oe)(hp:(a,oe)∈X.pn)
  (he:QE X W e ma) (hg:Gl X "isinstance") (hm:X.mg "isinstance"=none) (hg2:Gl X (Str.ofString y)) (gy:∃D,X.mg (Str.ofString y)=some (.ref D)) (JN:(Str.ofString y==("__debug__":Str))=false:=by decide+kernel)
  (hs1:starEach [e,.Name (Str.ofString y) p2] X.env=(false,eval e X.env)::starEach [.Name (Str.ofString y) p2] X.env:=by rfl)
  (hs2:starEach [.Name (Str.ofString y) p2] X.env=(false,eval (.Name (Str.ofString y) p2) X.env)::starEach [] X.env:=by rfl)
  (hpl:(backTo pos (starEach [.Name (Str.ofString y) p2] X.env)).any (·.1)=false:=by rfl):
  QE X W (.Call (.Name "isinstance" p) [e,.Name (Str.ofString y) p2] [] pos) (Bg x (a,d.getD 0) (mt x.cls) ma):=by
 obtain ⟨D0,gy⟩:=gy
 have pb:PE X (.Name (Str.ofString y) p2) (tC (.ref D0)):=pe_glob hg2 gy rfl JN
 cases em:mt x.cls with
 |none=>
  refine Bt (pe_callB (X:=X) (r:=fun _ _ _=>False) (fun _ _ _ _ _ _ _ _ _ h=>h.elim) hg hm (show bootBuiltins "isinstance"=some (.builtin "isinstance") by decide+kernel) (pa_cons he (pa_cons pb pa_nil hs2) hs1) (he:=hs1) (hpl:=hpl)) fun σ φ env lh H Q h1 h2 q=>?_
  refine rd_of h1 h2 (wp_step q fun d Ad φ1 v H1 p1 r1 q1=>?_)
  cases d<;>exact q1.elim
 |some b=>
  obtain ⟨C1,D1,JL,Rg,hk,ec⟩:=k x.cls b _ q.gC em
  rw [q.gC] at JL
  rw [gy] at Rg
  cases JL
  cases Rg
  refine Bt (pe_callB (Qt hp ec q.z q.f) hg hm (by decide+kernel) (pa_cons he (pa_cons pb pa_nil hs2) hs1) (he:=hs1) (hpl:=hpl)) fun σ φ env lh H Q h1 h2 g=>?_
  refine rd_of h1 h2 (wp_step g fun v Ad φ1 u H1 p1 r1 q1=>?_)
  cases v with
  |Cg a'=>
   cases r1
   dsimp only at q1
   by_cases c:a'=a∧Fp x=true
   ·rw [if_pos c] at q1
    obtain ⟨c1,c2⟩:=c
    subst c1
    have ez:Dj x=some none:=by
     unfold Fp at c2
     split at c2
     ·assumption
     ·cases c2
    exact ⟨.ref D0,.ref D0,b,rfl,.inl (q.d0 ez),fun u r=>by cases r;rfl,hk,Av q1 (.refl p1.hr) (.bl _)⟩
   ·rw [if_neg c] at q1
    exact q1.elim
  |Bv a' dx' r=>
   cases r1 with
   |Bv _ _ hX rr=>
    dsimp only at q1
    by_cases c:a'=a∧dx'=d.getD 0
    ·rw [if_pos c] at q1
     obtain ⟨c1,c2⟩:=c
     subst c1 c2
     refine ⟨.ref D0,.ref D0,b,rfl,?_,fun u r=>by cases r;rfl,hk,Av q1 (.refl p1.hr) (.bl _)⟩
     cases d with
     |none=>exact .inl rfl
     |some dx=>exact .inr ⟨dx,_,rfl,hX⟩
    ·rw [if_neg c] at q1
     exact q1.elim
  |_=>exact q1.elim
theorem T7{a C0:Addr}{d:Option Addr}{oe:Obj}{e:Expr}{ma:M D}{x:XO}{y:String}{mt:String→Option Bool}{p p2 pos:Pos}(k:Ju X.K X.mg y mt)(q:G6 X.mg x C0 d oe)(hp:(a,oe)∈X.pn)
  (he:QE X W e ma) (hg:Gl X "isinstance") (hm:X.mg "isinstance"=none) (hg2:Gl X (Str.ofString y)) (gy:X.mg (Str.ofString y)=none) (hv:bootBuiltins (Str.ofString y)=some (.type y)) (hn:Str.ofString y≠"__name__":=by decide+kernel) (JN:(Str.ofString y==("__debug__":Str))=false:=by decide+kernel)
  (hs1:starEach [e,.Name (Str.ofString y) p2] X.env=(false,eval e X.env)::starEach [.Name (Str.ofString y) p2] X.env:=by rfl)
  (hs2:starEach [.Name (Str.ofString y) p2] X.env=(false,eval (.Name (Str.ofString y) p2) X.env)::starEach [] X.env:=by rfl)
  (hpl:(backTo pos (starEach [.Name (Str.ofString y) p2] X.env)).any (·.1)=false:=by rfl):
  QE X W (.Call (.Name "isinstance" p) [e,.Name (Str.ofString y) p2] [] pos) (Bg x (a,d.getD 0) (mt x.cls) ma):=by
 have pb:PE X (.Name (Str.ofString y) p2) (tC (.ty y)):=pe_bltn hg2 gy hv rfl hn JN
 cases em:mt x.cls with
 |none=>
  refine Bt (pe_callB (X:=X) (r:=fun _ _ _=>False) (fun _ _ _ _ _ _ _ _ _ h=>h.elim) hg hm (show bootBuiltins "isinstance"=some (.builtin "isinstance") by decide+kernel) (pa_cons he (pa_cons pb pa_nil hs2) hs1) (he:=hs1) (hpl:=hpl)) fun σ φ env lh H Q h1 h2 q=>?_
  refine rd_of h1 h2 (wp_step q fun d Ad φ1 v H1 p1 r1 q1=>?_)
  cases d<;>exact q1.elim
 |some b=>
  obtain ⟨C1,JL,hk,ec⟩:=k x.cls b _ q.gC em
  rw [q.gC] at JL
  cases JL
  refine Bt (pe_callB (Qt hp ec q.z q.f) hg hm (by decide+kernel) (pa_cons he (pa_cons pb pa_nil hs2) hs1) (he:=hs1) (hpl:=hpl)) fun σ φ env lh H Q h1 h2 g=>?_
  refine rd_of h1 h2 (wp_step g fun v Ad φ1 u H1 p1 r1 q1=>?_)
  cases v with
  |Cg a'=>
   cases r1
   dsimp only at q1
   by_cases c:a'=a∧Fp x=true
   ·rw [if_pos c] at q1
    obtain ⟨c1,c2⟩:=c
    subst c1
    have ez:Dj x=some none:=by
     unfold Fp at c2
     split at c2
     ·assumption
     ·cases c2
    exact ⟨.ty y,.type y,b,rfl,.inl (q.d0 ez),fun u r=>by cases r;rfl,hk,Av q1 (.refl p1.hr) (.bl _)⟩
   ·rw [if_neg c] at q1
    exact q1.elim
  |Bv a' dx' r=>
   cases r1 with
   |Bv _ _ hX rr=>
    dsimp only at q1
    by_cases c:a'=a∧dx'=d.getD 0
    ·rw [if_pos c] at q1
     obtain ⟨c1,c2⟩:=c
     subst c1 c2
     refine ⟨.ty y,.type y,b,rfl,?_,fun u r=>by cases r;rfl,hk,Av q1 (.refl p1.hr) (.bl _)⟩
     cases d with
     |none=>exact .inl rfl
     |some dx=>exact .inr ⟨dx,_,rfl,hX⟩
    ·rw [if_neg c] at q1
     exact q1.elim
  |_=>exact q1.elim
end
theorem O_{i:Nat}{f:Addr×Addr→MF}(hf:∀p p' z h,f p [Ac p z] h=f p' [Ac p' z] h):Uq i fun p=>Am (f p) (Ab (Aa i) Ag):=by
 intro p p' z e
 funext h
 show Am (f p) (Ab (Aa i) Ag) (e.set i (some (Ac p z))) h=Am (f p') (Ab (Aa i) Ag) (e.set i (some (Ac p' z))) h
 unfold Am Ab Aa
 by_cases hi:i<e.length
 ·rw [List.getElem?_set_self hi,List.getElem?_set_self hi]
  exact hf p p' z h
 ·rw [List.getElem?_eq_none (by simpa using hi),List.getElem?_eq_none (by simpa using hi)]
  rfl
end HM
namespace DY
open PySem PySem.Spec PyProof.Rows L2 HotX
def Lk(h:Heap)(H:Hp):Value→List Addr→Prop
 |v,[]=>v=.none
 |v,b::r=>v=.ref b∧H b=none∧∃o vs v',h.get? b=some o∧o.data=.fields vs∧vs[2]? =some v'∧Lk h H v' r
theorem Lk.keep{h h':Heap}{H H':Hp}:∀{l:List Addr} {v:Value},(∀b∈l,∀o vs,h.get? b=some o→o.data=.fields vs→H b=none→h'.get? b=some o∧H' b=none)→Lk h H v l→Lk h' H' v l
 |[],_,_,q=>q
 |b::r,_,k,⟨e,n,o,vs,v',g,d,f,t⟩=>
  have z:=k b List.mem_cons_self o vs g d n
  ⟨e,z.2,o,vs,v',z.1,d,f,Lk.keep (fun c hc=>k c (List.mem_cons_of_mem _ hc)) t⟩
theorem Lk.get{h:Heap}{H:Hp}:∀{l:List Addr} {v:Value},Lk h H v l→∀b∈l,∃o vs,h.get? b=some o∧o.data=.fields vs∧H b=none
 |[],_,_,_,hb=>nomatch hb
 |c::r,_,⟨_,n,o,vs,_,g,d,_,t⟩,b,hb=>by
  rcases List.mem_cons.mp hb with e|hb
  ·subst e;exact ⟨o,vs,g,d,n⟩
  ·exact t.get b hb
section
variable{prog:Program}{w:World}{A:Around}{E:Value→Shared→Prop}{s:Shared}
end
end DY
namespace DY
open PySem PySem.Spec PyProof.Rows L2 HotX
abbrev St:=L2.St
def Zk(cls:Value)(d:Option Addr)(c:Value):Obj→Prop:=fun o=>o.cls=cls∧o.dict=d∧∀vs:Array Value,o.data=.fields vs→vs[2]? =some c
theorem Zk.zc{cls:Value}{d:Option Addr}{c:Value}{o:Obj}(h:Zk cls d c o):Zc cls d o:=⟨h.1,h.2.1⟩
theorem Zk.steady{cls:Value}{d:Option Addr}{c:Value}:PXN.Steady1 (Zk cls d c):=fun o v h=>by
 refine ⟨PXN.steady_cls o v h.1,PXN.steady_dict o v h.2.1,fun vs e=>?_⟩
 have h3:=h.2.2
 revert e h3
 cases o with
 |mk oc od dt sl=>
  cases dt with
  |fields us=>
   intro e h3
   have e2:us.setIfInBounds 1 v=vs:=Data.fields.inj e
   rw [←e2]
   exact set_other (by decide) (h3 us rfl)
  |_=>
   intro e _
   first
    |exact Data.noConfusion e
    |cases e
def XE(X:Cx)(W:WX)(u:Value)(s':Shared):Prop:=
 ∃(a:Addr) (B:Heap) (sI:Shared) (pins:List (Addr×Obj)) (σ:St) (H:Hp) (cls:Value) (d:Option Addr) (c:Value) (l:List Addr),
  (u=.ref a∧Inv X pins σ H sI∧(∀b o,sI.heap.get? b=some o→b ∉ frs X.stack→B.get? b=some o)∧sI.heap.UpToSlots s'.heap)∧
   (Sky B X.stack a (Zk cls d c) X.env.locals s'.heap∧Lk sI.heap H c l)∧H a=none∧s'.os=sI.os∧AllBare s'.gens∧W cls d σ H
def Takes(X:Cx)(W:WX):Prop:=∀u s',XE X W u s'→X.xe u s'
def CX(P:Program)(w:World)(outer:List Env)(H:Hp)(s:Shared)(E:XK)(u:Value)(s':Shared):Prop:=
 ∃(a:Addr) (B:Heap) (H':Hp) (cls:Value) (d:Option Addr) (c:Value) (l:List Addr),(u=.ref a∧HandSPX.FlyingZ B outer a (Zk cls d c) s'.heap∧Lk B H' c l)∧HOk P w H' B∧UB (frs outer) H H' s.heap B s'.heap∧
  H' a=none∧s'.os=s.os∧AllBare s'.gens∧E cls d H'
theorem Takes.imp{X:Cx}{W W':WX}(t:Takes X W)(h:∀c d σ H,W' c d σ H→W c d σ H):Takes X W':=fun u s' ⟨a,B,sI,pins,σ,H,cls,d,c,l,e,sky,na,os,ag,w⟩=>
 t u s' ⟨a,B,sI,pins,σ,H,cls,d,c,l,e,sky,na,os,ag,h _ _ _ _ w⟩
section
variable{X:Cx}{pins:List (Addr×Obj)}{σ:St}{H:Hp}{sI s s':Shared}{B:Heap}{W:WX}{E:XK}
theorem XE.of_call(I:Inv X pins σ H s)(hW:∀cls d H',E cls d H'→W cls d σ H'){u:Value}(x:CX X.prog X.w X.stack H s E u s'):XE X W u s':=by
 obtain ⟨a,B,H',cls,d,c,l,⟨e0,fly,ck⟩,okB,ub,na,os,ag,hE⟩:=x
 obtain ⟨G,in1,out1⟩:=restrict s'.heap fun b=>(B.get? b).isSome||decide (b∈frs X.stack)
 have st:B.StaysIn s'.heap:=fly.1
 have gB:∀b o,B.get? b=some o→G.get? b=some o:=fun b o e=>(in1 b (by rw [e];rfl)).trans (st b o e)
 have gF:∀b,b∈frs X.stack→G.get? b=s'.heap.get? b:=fun b hb=>in1 b (by rw [decide_eq_true hb];exact Bool.or_true _)
 have back:∀b o,G.get? b=some o→s'.heap.get? b=some o∧(B.get? b=some o∨b∈frs X.stack):=fun b o e=>by
  by_cases hb:b∈frs X.stack
  ·exact ⟨(gF b hb).symm.trans e,.inr hb⟩
  ·cases z:B.get? b with
   |none=>
    rw [out1 b (by rw [z,decide_eq_false hb];rfl)] at e
    cases e
   |some o2=>
    have y:=gB b o2 z
    rw [e] at y
    cases y
    exact ⟨st b o z,.inl rfl⟩
 have J:Inv X pins σ H' {s with heap:=G,gens:=s'.gens,drawn:=s'.drawn,toks:=s'.toks}:=by
  refine I.call (ch:=[]) ⟨fun b o e n hb _=>gB b o (ub.keep b o e n hb),fun b o e n hb _=>?_,fun b o e n _=>ub.free b o e n,fun b o e _=>?_,ub.tups,ub.frzs,ub.tbls⟩ (okB.kept gB) ag (fun _ z=>nomatch z)
  ·obtain ⟨sl,y⟩:=ub.slot b o e hb
   exact ⟨sl,(gF b hb).trans y⟩
  ·by_cases hb:b∈frs X.stack
   ·obtain ⟨sl,y⟩:=ub.slot b o e hb
    exact ⟨_,(gF b hb).trans y⟩
   ·obtain ⟨o2,y⟩:=ub.there b o e hb
    exact ⟨o2,gB b o2 y⟩
 refine ⟨a,B,_,pins,σ,H',cls,d,c,l,⟨e0,J,fun b o e hb=>(back b o e).2.resolve_right hb,Heap.UpToSlots.of_keeps fun b o e=>(back b o e).1⟩,⟨.inr (.inl fly),ck.keep fun b _ o vs g _ n=>⟨gB b o g,n⟩⟩,na,os,ag,hW _ _ _ hE⟩
theorem Lk.ground{l:List Addr}{c:Value}(I:Inv X pins σ H sI)(nb:∀b o,sI.heap.get? b=some o→b ∉ frs X.stack→B.get? b=some o)(k:Lk sI.heap H c l):Lk B H c l:=
 k.keep fun b _ o vs g d n=>⟨nb b o g fun hb=>by
  obtain ⟨_,o2,g2,hd⟩:=I.stack.mem hb
  rw [g] at g2
  cases g2
  exact hd vs d,n⟩
theorem XE.leave(hs:X.stack=X.env::X.outer)(hf:X.env.frame=some X.env.locals)(hex:X.ex=[]){E₁:Value→Shared→Prop}(hW:∀cls d σ H,W cls d σ H→E cls d H){u:Value}(x:XE X W u s'):
  wpAny (model X.prog X.w) X.A (leaving X.env u) (fun _ s''=>CX X.prog X.w X.outer X.H_0 X.s_0 E u s'') E₁ s':=by
 obtain ⟨a,B,sI,pins,σ,H,cls,d,c,l,⟨e0,I,nb,up⟩,⟨sky,ck⟩,na,os,ag,w⟩:=x
 subst e0
 have frm:X.A.frames=some (X.env::X.outer):=I.ok.frames.trans (congrArg some hs)
 have no:∀b,b ∉ X.ex:=fun b hb=>by rw [hex] at hb;exact nomatch hb
 have old:∀b o,X.s_0.heap.get? b=some o→b ∉ X.fs→b ∉ frs X.stack:=fun b o e hb hm=>by
  have z:=List.mem_cons.mp (I.stkSub b hm)
  cases z with
  |inr z=>exact hb z
  |inl z=>
   have lt:=Heap.lt_size e
   have le:=I.ok.above
   rw [z] at lt
   exact absurd (Nat.lt_of_lt_of_le lt le) (Nat.lt_irrefl _)
 have ground:=I.inGround nb
 have done:∀h',HandSPX.FlyingZ B X.outer a (Zk cls d c) h'→s'.heap.UpToSlots h'→CX X.prog X.w X.outer X.H_0 X.s_0 E (.ref a) {s' with heap:=h'}:=fun h' fly up2=>by
  have ub:UB (frs X.outer) X.H_0 H X.s_0.heap B h':=by
   refine ⟨fun b o e n hb=>nb b o (I.base.keep b o e n hb (no b)) (old b o e hb),fun b o e hb=>?_,fun b o e n=>I.base.free b o e n (no b),fun b o e hb=>?_,I.base.tups,I.base.frzs,I.base.tbls⟩
   ·obtain ⟨_,o0,g0,nf⟩:=I.ok.funs.mem hb
    rw [e] at g0
    cases g0
    obtain ⟨sl,e1⟩:=I.base.slot b o e (I.ok.frf b hb) hb (no b)
    obtain ⟨sl2,e2⟩:=up b _ e1 nf
    obtain ⟨sl3,e3⟩:=up2 b _ e2 nf
    exact ⟨sl3,e3⟩
   ·obtain ⟨o2,e1⟩:=I.base.there b o e (no b)
    exact ⟨o2,nb b o2 e1 (old b o e hb)⟩
  exact ⟨a,B,H,cls,d,c,l,⟨rfl,fly,Lk.ground I nb ck⟩,ground,ub,na,os.trans I.os,ag,hW _ _ _ _ w⟩
 rw [hs] at sky
 rcases sky with ⟨hB,hn,hl,oe,vs,he,hz,hd,h1⟩|fly|hd
 ·exact PXN.leaving_firstZ Zk.steady frm hl hf he hB hn hd h1 hz done
 ·exact PXN.leaves_onZ Zk.steady frm hf fly done
 ·exact HandSPX.leaves_heldZ hf hd done
theorem takes_of(hs:X.stack=X.env::X.outer)(hf:X.env.frame=some X.env.locals)(hex:X.ex=[]){E₁:Value→Shared→Prop}
  (hx:X.xe=fun e s'=>wpAny (model X.prog X.w) X.A (leaving X.env e) (fun _ s''=>CX X.prog X.w X.outer X.H_0 X.s_0 E e s'') E₁ s'):Takes X (fun cls d _ H=>E cls d H):=fun u s' x=>by
 rw [hx]
 exact x.leave (E:=E) hs hf hex fun _ _ _ _ h=>h
theorem passAt(tk:Takes X W)(σ:St):PassesAt (CX X.prog X.w) X σ (WE W σ):=fun _ _ _ e s' I c=>tk e s' (XE.of_call I (fun _ _ _ h=>h) c)
end
end DY
namespace DY
open PySem PySem.Spec PyProof.Rows L2 HotX
section
variable{prog:Program}{w:World}{A:Around}{E:Value→Shared→Prop}{s:Shared}
end
def Iv(pn:List (Addr×Obj)):Value→List Addr→Prop
 |v,[]=>v=.none
 |v,b::r=>v=.ref b∧∃o vs v',(b,o)∈pn∧o.data=.fields vs∧vs[2]? =some v'∧Iv pn v' r
def HotC(X:Cx):Prop:=∃x1 l,X.A.handled=some (.ref x1)∧Iv X.pn (.ref x1) (x1::l)
theorem Iv.lk{pn:List (Addr×Obj)}{h:Heap}{H:Hp}(k:∀p∈pn,h.get? p.1=some p.2∧H p.1=none):∀{l:List Addr} {v:Value},Iv pn v l→Lk h H v l
 |[],_,q=>q
 |b::r,_,⟨e,o,vs,v',m,d,f,t⟩=>⟨e,(k _ m).2,o,vs,v',(k _ m).1,d,f,t.lk k⟩
theorem HotC.at{X:Cx}{pins:List (Addr×Obj)}{σ:L2.St}{H:Hp}{s:Shared}(I:Inv X pins σ H s){x1:Addr}{l:List Addr}(k:Iv X.pn (.ref x1) (x1::l)):Lk s.heap H (.ref x1) (x1::l):=
 k.lk fun p hp=>⟨(I.pin p (List.mem_append_left _ hp)).1,(I.pin p (List.mem_append_left _ hp)).2.1⟩
end DY
namespace DY
open PySem PySem.Spec PyProof.Rows L2 HotX
section
variable{X:Cx}{pins:List (Addr×Obj)}{σ:L2.St}{H:Hp}{s:Shared}
end
section
variable{X:Cx}{test:Expr}{cm:Value→Option Bool}{body suite:List Stmt}{b₀:Stmt}{pos pos':Pos}{tb:WX→TS}{ts:Addr→Value→Option Addr→TS}{Wout:WX}
end
end DY
namespace DY
open PySem PySem.Spec PyProof.Rows L2 HotX
structure Lz(P:Program)(w:World)(K:PySem.W.Frag)(mg:Str→Option Value)(base:Heap)(CX:CXT)(k:Nat)(f:Addr)(fd:FuncData)(ps:List Str)(sp:Sp):Prop where
 len:∀vs H Q E,sp vs H Q E→vs.length=ps.length
 run:∀(A:Around) (outer:List Env) (s:Shared) (H:Hp) (args:Args) (us:List Value) (vs:List V) (Q:VK) (E:XK) (p:Addr×Obj),L2H.RoomH k A→L2H.PinOk outer H s p→Env0 P w K mg base A outer s H→BindsTo s fd args (ps.zip us)→Vals vs us→sp vs H Q E→
  codeAny (model P w) A (.call (.ref f) args) (CR CX outer P w H s Q E) s
theorem Xq{CX:CXT}{P:Program}{w:World}{K:PySem.W.Frag}{mg:Str→Option Value}{base:Heap}{k:Nat}{f:Addr}{name qual:Str}{params:Arguments}{body:List Stmt}{scope:Scope}{dV kV doc pm cdv ct oc:Value}{an od:Option Addr}
  {osl:Array (Option Value)} {N ps:List Str} {sp:Sp} (lk:K.lookup f=some ⟨oc,od,.func (PySem.W.fnOf name qual params body scope dV kV doc pm an cdv ct),osl⟩) (hcd:PySem.W.codeIn K cdv qual=true) (S:FnScope N ps scope)
  (len:∀vs H Q E,sp vs H Q E→vs.length=ps.length)
  (hbody:∀(A:Around) (outer:List Env) (s:Shared) (H:Hp) (vs:List V) (Q:VK) (E:XK) (p:Addr×Obj),sp vs H Q E→
   ∃t,PSs (L2H.cxH CX P w K mg base N qual scope f cdv A outer s H E p) body t∧t {nx:=fun _ H'=>Q .non H',rt:=Q} (L2.start N vs) H):
  Lz P w K mg base CX (k+1) f (PySem.W.fnOf name qual params body scope dV kV doc pm an cdv ct) ps sp:=by
 refine ⟨len,fun A outer s H args us vs Q E p hr pin e0 hb r hsp=>?_⟩
 have kin:K.In s.heap:=e0.mod.kin.keeps fun b o e=>(e0.bs b o e).1
 have kind:∀y∈ps.zip us,scope.names.lookup y.1=some .local∨(scope.names.lookup y.1=some .cell∧((cellsFrom (s.heap.objs.size+1) scope.names []).lookup y.1).isSome=true):=fun y hy=>
  (S.par y.1 (List.of_mem_zip (a:=y.1) (b:=y.2) hy).1).imp id fun q=>⟨q,PySem.W.cellsFrom_some _ _ _ (.inl q)⟩
 refine codeAny_call_function hr.depth (kin _ _ lk) rfl S.co S.gen rfl (PySem.W.codeRec_of kin hcd) (hb _ _ _ _ (wpAny_newFunctionEnv_cells S.kind kind fun env he s1 x=>?_))
 subst he
 refine ⟨(e0.mod.nolimit.keeps fun b o e=>(e0.bs b o e).1).keeps x.toInCall.keep,codeAny_func ?_⟩
 obtain ⟨t,ht,hq⟩:=hbody A outer s H vs Q E p hsp
 have I:Inv (L2H.cxH CX P w K mg base N qual scope f cdv A outer s H E p) [] (L2.start N vs) H s1:=L2H.inv_startH S pin e0 (len _ _ _ _ hsp) r x
 refine wpAny_mono (ht.run [] s1 (L2.start N vs) H _ I hq) (fun fl s' z=>?_) fun e s' z=>z
 cases fl with
 |ret u=>obtain ⟨v,σ',H',J,rv,q⟩:=z;exact ⟨v,H',J.os,J.bare,J.base,J.hok,rv,q⟩
 |next=>obtain ⟨σ',H',J,q⟩:=z;exact ⟨V.non,H',J.os,J.bare,J.base,J.hok,rfl,q⟩
 |brk=>obtain ⟨_,_,_,q⟩:=z;exact q.elim
 |cont=>obtain ⟨_,_,_,q⟩:=z;exact q.elim
end DY
namespace HM
open PySem L2 PySem.Spec PyProof.Rows
structure iI(P:Program)(w:World)(K:PySem.W.Frag)(mg:Str→Option Value)(base:Heap)(k:Nat)(x:String)(f:MF):Prop where
 ex:∃fa fd ps,mg (Str.ofString x)=some (.ref fa)∧PySem.W.keepIn K (.ref fa)=true∧Binds K fd ps []∧FnOk P w K mg base (DY.CX P w) k fa fd ps (Ck K mg f)
structure Vw(P:Program)(w:World)(K:PySem.W.Frag)(mg:Str→Option Value)(base:Heap)(x:String):Prop where
 ex:∃C fI fd,mg (Str.ofString x)=some (.ref C)∧Iw K C∧PySem.W.findIn K (.ref C) "__init__"=some (some (.ref fI))∧PySem.W.typeIn K (.ref fI)=some (.type "function")∧Binds K fd [Str.ofString "self",Str.ofString "reason"] []∧
  DY.Lz P w K mg base CX0 1 fI fd [Str.ofString "self",Str.ofString "reason"] (Ji C)
theorem aO{CX:CXT}{P:Program}{w:World}{K:PySem.W.Frag}{mg:Str→Option Value}{base:Heap}{x qual:Str}{st:Stmt}{f C:Addr}{fd:FuncData}{k:Nat}{p1 p2 p3 p4:Pos}(F:Fun K x qual st f fd)(S:FnScope [Str.ofString "self",Str.ofString "reason"] [Str.ofString "self",Str.ofString "reason"] (defScope st))
  (hb:defBody st=[.Assign [.Attribute (.Name (Str.ofString "self") p1) (Str.ofString "reason") p2] (.Name (Str.ofString "reason") p3) p4]) (l1:(defScope st).names.lookup (Str.ofString "self")=some .local) (l2:(defScope st).names.lookup (Str.ofString "reason")=some .local) (L:Iw K C):
  DY.Lz P w K mg base CX (k+1) f fd [Str.ofString "self",Str.ofString "reason"] (Ji C):=by
 obtain ⟨oc,od,kV,doc,pm,an,cdv,ct,osl,rfl,lk,hcd⟩:=F.ex
 refine DY.Xq lk hcd S (fun vs H Q E ⟨a,v,h,_⟩=>by rw [h];rfl) fun A outer s H vs Q E p ⟨a,v,ev,ha,hq⟩=>?_
 subst ev
 rw [hb]
 exact ⟨_,pss_one (ps_ost (pv 0 (hv:=.inl l1)) (pv 1 (hv:=.inl l2))),v,rfl,_,rfl,a,C,rfl,L.T,L.no,.inl ⟨ha,fun dx h1 h2=>hq dx h1 h2⟩⟩
section
variable{X:Cx}{W:WX}{e a b c:Expr}{es:List Expr}{pos:Pos}{ma mb:M D}{Bl:M (List D)}
end
end HM
namespace HM
end HM
namespace HM
open PySem L2 PySem.Spec PyProof.Rows HE
theorem fY{l:PySem.W.OpenLaw}{k:Nat}{q:Program}{loose:List Str}{XP:(Str→Option Value)→Heap→Prop}{YP:World→Heap→Prop}{d:DefRec}{f:MF}{x:Str}(L:Jv f)(hn:l.most=some 63)(hdf:d.params.defaults=[])(hr:Room k callerA)
  (F:∀(w:World) (mg:Str→Option Value) (fa:Addr) (h:Heap),YP w h→h.Ns mainGlobals mg→mg d.name=some (.ref fa)→∃K:PySem.W.Frag,K.In h∧
   ∃fd:FuncData,(∀(s:Shared) (u:Value),BindsTo s fd ⟨[u],[]⟩ [(x,u)])∧∀base:Heap,K.In base→base.Ns mainGlobals mg→FnOk l.prog w K mg base (L2.CX l.prog w) k fa fd [x] (Ck K mg f)):
  PySem.W.WalkO q loose XP YP l.row.toRowW d [] (fun f vs=>PySem.call f vs):=by
 refine Att.attach_callB hn hdf fun w s₀ s₁ mg mb fa o pm cd doc a vs ns G Y ho hd hcd hmg hobj hints hlen hbits hg=>?_
 obtain ⟨K,KX,fd,hb,hF⟩:=F w mg fa _ Y G.T.g hmg
 exact law_call KX G.T.g G.T.b G.T.builtins G.T.nolimit hg hobj hints (Nat.le_trans hlen (by decide)) hr hF hb (fun H hO hS=>ZX L hlen hbits hO hS) fun H e s' h=>Wh h
theorem Yg{K:PySem.W.Frag}{x:Str}{i:Int}(c:Nk K x i=true):∃t,PySem.W.nsIn K mainGlobals x=some (some (.int i t)):=by
 unfold Nk at c
 split at c
 ·rename_i j t e
  have ej:j=i:=of_decide_eq_true c
  rw [ej] at e
  exact ⟨t,e⟩
 ·cases c
theorem fQ{K:PySem.W.Frag}{x:Str}{ss:List String}{h:Heap}{mg:Str→Option Value}(X:K.In h)(G:h.Ns mainGlobals mg)(c:Va K x ss=true):GT K mg x ss:=by
 obtain ⟨h,g⟩:=Bool.and_eq_true_iff.mp c
 have g:=of_decide_eq_true g
 split at h
 ·rename_i c its n sl e
  obtain ⟨h1,h2⟩:=Bool.and_eq_true_iff.mp h
  obtain ⟨h3,h4⟩:=Bool.and_eq_true_iff.mp h2
  exact ⟨_,_,its,n,PySem.W.mg_of X G g,e,congrArg Value.type (of_decide_eq_true h1),rfl,rfl,of_decide_eq_true h3,He.relAll_ok h4⟩
 ·cases h
theorem Xh{K:PySem.W.Frag}{C:Addr}(q:NP K C=true):∃nm qn N bs bm sn sub ab col dd k0 k1 k2 k3 k5,
  K.lookup C=some (excClassObj nm qn C N bs bm true sn sub ab col dd k0 k1 k2 k3 k5 "ValueError.__new__")∧PySem.HandSPX.refsVE bm=true:=by
 unfold NP at q
 split at q
 ·rename_i dd cd sl ho
  split at q
  ·rename_i C' bm k0 k1 k2 k3 n k5 hm hs
   simp only [Bool.and_eq_true,beq_iff_eq,Bool.not_eq_true'] at q
   obtain ⟨⟨⟨⟨rfl,rfl⟩,hdel⟩,hdc⟩,ht⟩:=q
   obtain ⟨nm,bs,mro,ns,qn,hd,sn,sub,ab,col,del⟩:=cd
   dsimp only at hm hdel hdc
   subst hm hdel hdc
   have hsl:sl= #[k0,k1,k2,k3,some (.builtin "ValueError.__new__"),k5]:=by
    obtain ⟨l⟩:=sl
    simp only at hs
    rw [hs]
   subst hsl
   exact ⟨_,_,_,_,_,_,_,_,_,_,_,_,_,_,_,ho,ht⟩
  ·cases q
 ·cases q
end HM
namespace L
open PySem L2 HM
def fuel:Nat:=100000000
abbrev FUEL:Nat:=24
def Mf:MS:=(Ak (BJ (Bc (Af KH (Aa 1) (Am Bu (Ab (Aa 0) Ag)))) (Aq (Af BP (Aa 0) (Aa 1))) BW)
  (Aq (mC (.int 0))))
def JF:MF:=A_ 2 2 Mf
def Ml:MS:=(Ak (BJ (Bc (Af J9 (Aa 0) (Af Hv (mC (.int 10)) (mC (.int 18))))) (Aq (Bw (Ab (Aa 0) (Ab (mC (.int 1)) Ag)))) BW)
  (Aq (Bw (Ab (mC (.int 0)) (Ab (Aa 0) Ag)))))
def IK:MF:=A_ 1 1 Ml
def Mq:MS:=(Ak (BJ (Bc (Af J_ (Af BP (Aa 0) (mC (.int 0))) (mC (.int 0)))) (Ak (BL 2 (Af Hu (Am Ht (Ab (Af BP (Aa 0) (mC (.int 0))) Ag)) (Aa 1)))
  (Ak (Jf (Aa 0) (mC (.int 0)) (Af Hq (Af BP (Aa 0) (mC (.int 0))) (Aa 1)))
  (Aq (Aa 2)))) BW)
  (Ak (Jf (Aa 0) (mC (.int 1)) (Af Hu (Am Ht (Ab (Af Bb (Af G8 (Af BP (Aa 0) (mC (.int 1))) (mC (.int 48271))) (mC (.int 69621))) Ag)) (mC (.int 2147483647))))
  (Aq (Af Hu (Am Ht (Ab (Af Bb (Af Hq (Af G8 (Af BP (Aa 0) (mC (.int 1))) (Af BP (Aa 0) (mC (.int 1)))) (mC (.int 1009))) (Af Hq (Af BP (Aa 0) (mC (.int 1))) (mC (.int 7)))) Ag)) (Aa 1)))))
def FT:MF:=A_ 2 3 Mq
def Mg:MS:=(Ak (BL 1 (mC (S " !\"#$&'()*+,-./0123456789:;<=>?@ABCDEFGHIJKLMNOPQRSTUVWXYZ[\\]^_`")))
  (Ak (BL 1 (Af Bb (Aa 1) (mC (S "abcdefghijklmnopqrstuvwxyz{|}~"))))
  (Aq (Af BP (Aa 1) (Aa 0)))))
def JG:MF:=A_ 1 2 Mg
def Mp:MS:=(Ak (BL 2 (Am FT (Ab (Aa 0) (Ab (Af Bb (Aa 1) (mC (.int 1))) Ag))))
  (Aq (Nz isStr Ge (mC (S "")) (Ab (Ig (Dq (Ab (Aa 2) Ag)) (.nm 3) Ii (Am JG (Ab (Am FT (Ab (Aa 0) (Ab (mC (.int 94)) Ag))) Ag)) [3]) Ag))))
def KY:MF:=A_ 2 4 Mp
def Jz(R:Nat→MF):MS:=(Ak (BJ (Bh (Bq .tuple (Aa 1))) (Ak (BJ (CN (Bs (Bh (Bq .tuple (Aa 0)))) (Bc (Af CT (Am Bu (Ab (Aa 0) Ag)) (Am Bu (Ab (Aa 1) Ag))))) (Aq (mC (.bl false))) BW)
  (Ak (Fv (Dq (Ab (Am Bu (Ab (Aa 1) Ag)) Ag)) (.nm 2) (BJ (Bs (Bh (Am (R 0) (Ab (Af BP (Aa 0) (Aa 2)) (Ab (Af BP (Aa 1) (Aa 2)) Ag))))) (Aq (mC (.bl false))) BW))
  (Aq (mC (.bl true))))) BW)
  (Ak (BJ (Bc (Af KC (Aa 1) (mC .non))) (Aq (Af KC (Aa 0) (mC .non))) BW)
  (Ak (BJ (Bh (Bq .str (Aa 1))) (Aq (Fe (Bq .str (Aa 0)) (Af Bm (Aa 0) (Aa 1)))) BW)
  (Aq (Fe (Bq .int (Aa 0)) (Fe (Ih (Bq .bool (Aa 0))) (Af Bm (Aa 0) (Aa 1))))))))
def Ek:Nat→Nat→MF
 |0,_=>fun _ _=>.bad
 |n+1,_=>A_ 2 3 (Jz (Ek n))
def Gg:MF:=Ek FUEL 0
def Qq:MS:=(Ak (BJ (CN (Bs (Bh (Bq .str (Aa 1)))) (CN (Bs (Bh (Bq .str (Aa 2)))) (Bs (Bh (Bq .str (Aa 3)))))) (Aq (mC (.bl false))) BW)
  (Ak (BJ (Bc (Ny true (Ab (Aa 1) (Ab (Aa 2) Ag)) (Du (FW "Seals" "_marks") (Aa 0)))) (Aq (mC (.bl false))) BW)
  (Aq (Af Bm (R8 (Du (FW "Seals" "_marks") (Aa 0)) (Ab (Aa 1) (Ab (Aa 2) Ag))) (Aa 3)))))
def RK:MF:=A_ 4 4 Qq
end L
namespace L
open PySem L2 HM
def Ec:String→Option Bool:=fun x=>if x="ChartError" then some true else if x="BadText" then some true else if x="BadDocument" then some true else if x="BadKey" then some true else if x="BadState" then some true else if x="DiskError" then some true else if x="DiskCrashed" then some true else if x="Refused" then some true else if x="BadAct" then some true else none
def Gn:String→Option Bool:=fun x=>if x="ChartError" then some false else if x="BadText" then some true else if x="BadDocument" then some false else if x="BadKey" then some false else if x="BadState" then some false else if x="DiskError" then some false else if x="DiskCrashed" then some false else if x="Refused" then some false else if x="BadAct" then some false else none
def Gj:String→Option Bool:=fun x=>if x="ChartError" then some false else if x="BadText" then some false else if x="BadDocument" then some true else if x="BadKey" then some false else if x="BadState" then some false else if x="DiskError" then some false else if x="DiskCrashed" then some false else if x="Refused" then some false else if x="BadAct" then some false else none
def Gk:String→Option Bool:=fun x=>if x="ChartError" then some false else if x="BadText" then some false else if x="BadDocument" then some false else if x="BadKey" then some true else if x="BadState" then some false else if x="DiskError" then some false else if x="DiskCrashed" then some false else if x="Refused" then some false else if x="BadAct" then some false else none
def Gm:String→Option Bool:=fun x=>if x="ChartError" then some false else if x="BadText" then some false else if x="BadDocument" then some false else if x="BadKey" then some false else if x="BadState" then some true else if x="DiskError" then some false else if x="DiskCrashed" then some false else if x="Refused" then some false else if x="BadAct" then some false else none
def Gq:String→Option Bool:=fun x=>if x="ChartError" then some false else if x="BadText" then some false else if x="BadDocument" then some false else if x="BadKey" then some false else if x="BadState" then some false else if x="DiskError" then some true else if x="DiskCrashed" then some false else if x="Refused" then some false else if x="BadAct" then some false else none
def Gp:String→Option Bool:=fun x=>if x="ChartError" then some false else if x="BadText" then some false else if x="BadDocument" then some false else if x="BadKey" then some false else if x="BadState" then some false else if x="DiskError" then some false else if x="DiskCrashed" then some true else if x="Refused" then some false else if x="BadAct" then some false else none
def Fl:String→Option Bool:=fun x=>if x="ChartError" then some false else if x="BadText" then some false else if x="BadDocument" then some false else if x="BadKey" then some false else if x="BadState" then some false else if x="DiskError" then some false else if x="DiskCrashed" then some false else if x="Refused" then some true else if x="BadAct" then some false else none
def Fj:String→Option Bool:=fun x=>if x="ChartError" then some false else if x="BadText" then some false else if x="BadDocument" then some false else if x="BadKey" then some false else if x="BadState" then some false else if x="DiskError" then some false else if x="DiskCrashed" then some false else if x="Refused" then some false else if x="BadAct" then some true else none
def rt:String→Bool:=fun x=>if x="Refused" then true else if x="BadAct" then true else false
def V5:MS:=(Aq (Zr (Du (FW "Workshop" "published") (Aa 0)) (Aa 1)))
def RL:MF:=A_ 2 2 V5
def V4:MS:=(Aq (Am Wy (Ab (Du (FW "Workshop" "published") (Aa 0)) Ag)))
def Xn:MF:=A_ 1 1 V4
def V3:MS:=(Aq (Af Wo (Du (FW "Workshop" "published") (Aa 0)) (mC (S "1.charter"))))
def Xm:MF:=A_ 1 1 V3
def V2:MS:=(Aq (Am dList (Ab (Du (FW "Workshop" "known_charters") (Aa 0)) Ag)))
def Xl:MF:=A_ 1 1 V2
end L
namespace HM
open PySem L2 PySem.Spec PyProof.Rows HE L
structure FA(K:PySem.W.Frag)(mg:Str→Option Value)(x:String)(st:Stmt):Prop where
 ex:∃fa fd,mg (Str.ofString x)=some (.ref fa)∧PySem.W.keepIn K (.ref fa)=true∧Fun K (Str.ofString x) (Str.ofString x) st fa fd
structure MA(K:PySem.W.Frag)(mg:Str→Option Value)(c m q:String)(st:Stmt):Prop where
 ex:∃C fa fd,mg (Str.ofString c)=some (.ref C)∧Cls K C∧Meth K C (Str.ofString m) fa∧Fun K (Str.ofString m) (Str.ofString q) st fa fd
structure IA(K:PySem.W.Frag)(mg:Str→Option Value)(c q:String)(st:Stmt):Prop where
 ex:∃C fa fd,mg (Str.ofString c)=some (.ref C)∧Mk K C fa∧Fun K (Str.ofString "__init__") (Str.ofString q) st fa fd
structure LA(K:PySem.W.Frag)(mg:Str→Option Value)(x q:String)(st:Stmt):Prop where
 ex:∃C fi fd,mg (Str.ofString x)=some (.ref C)∧Iw K C∧PySem.W.findIn K (.ref C) "__init__"=some (some (.ref fi))∧PySem.W.typeIn K (.ref fi)=some (.type "function")∧Fun K (Str.ofString "__init__") (Str.ofString q) st fi fd
def Bd(x q:String)(st:Stmt)(ps:List Str):Prop:=∀(kV doc pm:Value) (an:Option Addr) (cdv ct:Value) (us:List Value),us.length=ps.length→
 bindArgs (PySem.W.fnOf (Str.ofString x) (Str.ofString q) (defArgs st) (defBody st) (defScope st) .none kV doc pm an cdv ct) ⟨us,[]⟩=pure (ps.zip us)
section
variable{x q:String}{st:Stmt}{ps:List Str}
theorem b0(hl:ps.length=0:=by exact rfl)(h:∀(kV doc pm:Value) (an:Option Addr) (cdv ct:Value),bindArgs (PySem.W.fnOf (Str.ofString x) (Str.ofString q) (defArgs st) (defBody st) (defScope st) .none kV doc pm an cdv ct) ⟨[],[]⟩=pure (ps.zip []):=by intros;exact rfl):Bd x q st ps:=
 fun kV doc pm an cdv ct us e=>match us,e.trans hl with|[],_=>h kV doc pm an cdv ct
theorem b1(hl:ps.length=1:=by exact rfl)(h:∀(kV doc pm:Value) (an:Option Addr) (cdv ct a:Value),bindArgs (PySem.W.fnOf (Str.ofString x) (Str.ofString q) (defArgs st) (defBody st) (defScope st) .none kV doc pm an cdv ct) ⟨[a],[]⟩=pure (ps.zip [a]):=by intros;exact rfl):Bd x q st ps:=
 fun kV doc pm an cdv ct us e=>match us,e.trans hl with|[a],_=>h kV doc pm an cdv ct a
theorem b2(hl:ps.length=2:=by exact rfl)(h:∀(kV doc pm:Value) (an:Option Addr) (cdv ct a b:Value),bindArgs (PySem.W.fnOf (Str.ofString x) (Str.ofString q) (defArgs st) (defBody st) (defScope st) .none kV doc pm an cdv ct) ⟨[a,b],[]⟩=pure (ps.zip [a,b]):=by intros;exact rfl):Bd x q st ps:=
 fun kV doc pm an cdv ct us e=>match us,e.trans hl with|[a,b],_=>h kV doc pm an cdv ct a b
theorem b3(hl:ps.length=3:=by exact rfl)(h:∀(kV doc pm:Value) (an:Option Addr) (cdv ct a b c:Value),bindArgs (PySem.W.fnOf (Str.ofString x) (Str.ofString q) (defArgs st) (defBody st) (defScope st) .none kV doc pm an cdv ct) ⟨[a,b,c],[]⟩=pure (ps.zip [a,b,c]):=by intros;exact rfl):Bd x q st ps:=
 fun kV doc pm an cdv ct us e=>match us,e.trans hl with|[a,b,c],_=>h kV doc pm an cdv ct a b c
theorem b4(hl:ps.length=4:=by exact rfl)(h:∀(kV doc pm:Value) (an:Option Addr) (cdv ct a b c d:Value),bindArgs (PySem.W.fnOf (Str.ofString x) (Str.ofString q) (defArgs st) (defBody st) (defScope st) .none kV doc pm an cdv ct) ⟨[a,b,c,d],[]⟩=pure (ps.zip [a,b,c,d]):=by intros;exact rfl):Bd x q st ps:=
 fun kV doc pm an cdv ct us e=>match us,e.trans hl with|[a,b,c,d],_=>h kV doc pm an cdv ct a b c d
theorem b5(hl:ps.length=5:=by exact rfl)(h:∀(kV doc pm:Value) (an:Option Addr) (cdv ct a b c d e:Value),bindArgs (PySem.W.fnOf (Str.ofString x) (Str.ofString q) (defArgs st) (defBody st) (defScope st) .none kV doc pm an cdv ct) ⟨[a,b,c,d,e],[]⟩=pure (ps.zip [a,b,c,d,e]):=by intros;exact rfl):Bd x q st ps:=
 fun kV doc pm an cdv ct us e=>match us,e.trans hl with|[a,b,c,d,f],_=>h kV doc pm an cdv ct a b c d f
end
theorem Ce{k k':Nat}{A:Around}(hr:Room k A)(h:k'≤k:=by decide):Room k' A:=hr.mono h
section
variable{X:Cx}{W:WX}
theorem pA(tk:Takes X W):∀σ,PassesAt (L2.CX X.prog X.w) X σ (WE W σ):=fun σ=>passAt tk σ
end
section
variable{CX:CXT}{P:Program}{w:World}{K:PySem.W.Frag}{mg:Str→Option Value}{base:Heap}{x c q m:String}{st:Stmt}{k:Nat}(N:List Str){np:Nat}{ms:MS}
abbrev Ir(P:Program)(w:World)(K:PySem.W.Frag)(mg:Str→Option Value)(base:Heap)(q:String)(st:Stmt)(k:Nat)(N:List Str)(ms:MS):Prop:=
 ∀(fa:Addr) (cdv:Value) (A:Around) (outer:List Env) (s:Shared) (H:Hp) (E:XK),Room k (A.deeper (envOfC (Str.ofString q) (defScope st) s.heap.objs.size fa cdv))→
  Takes (cxOf (L2.CX P w) P w K mg base N (Str.ofString q) (defScope st) fa cdv A outer s H E) (fun c d _ H=>E c d H)→
  PassesOwn (model P w) (A.deeper (envOfC (Str.ofString q) (defScope st) s.heap.objs.size fa cdv)) (cxOf (L2.CX P w) P w K mg base N (Str.ofString q) (defScope st) fa cdv A outer s H E).env (cxOf (L2.CX P w) P w K mg base N (Str.ofString q) (defScope st) fa cdv A outer s H E).xe→N.Nodup→
  Cp (cxOf (L2.CX P w) P w K mg base N (Str.ofString q) (defScope st) fa cdv A outer s H E) (fun c d _ H=>E c d H) (defBody st) ms
abbrev Sc(N:List Str)(np:Nat)(st:Stmt):Prop:=FnScope N (N.take np) (defScope st)
variable(hb:Bd x q st (N.take np))(m:MS)
theorem Kr{fa:Addr}{fd:FuncData}(F:Fun K (Str.ofString x) (Str.ofString q) st fa fd)(S:FnScope N (N.take np) (defScope st))(h:Ir P w K mg base q st k N m):
  FnOk P w K mg base (L2.CX P w) (k+1) fa fd (N.take np) (Ck K mg (A_ (N.take np).length N.length m)):=
 aM F S fun cdv A outer s H E hr=>h fa cdv A outer s H E hr (takes_of rfl rfl rfl rfl) (passes_of rfl) S.nd
end
section
variable{P:Program}{w:World}{K:PySem.W.Frag}{mg:Str→Option Value}{base:Heap}{x c q m:String}{st:Stmt}{k np:Nat}
theorem FA.cl(a:FA K mg x st){N:List Str}{np:Nat}{b:MS}(hb:Bd x x st (N.take np))(h:Ir P w K mg base x st k N b)(S:Sc N np st:=by exact ⟨rfl,rfl,rfl,by decide+kernel,rfl,by decide+kernel,by decide+kernel⟩):
  Cv P w K mg base (k+1) x (A_ (N.take np).length N.length b):=
 let ⟨fa,fd,h1,h2,F⟩:=a.ex
 ⟨fa,fd,_,h1,h2,F.binds hb,Kr N b F S h⟩
theorem MA.cl(a:MA K mg c m q st){N:List Str}{np:Nat}{b:MS}(hb:Bd m q st (N.take np))(h:Ir P w K mg base q st k N b)(S:Sc N np st:=by exact ⟨rfl,rfl,rfl,by decide+kernel,rfl,by decide+kernel,by decide+kernel⟩):
  Vh (L2.CX P w) P w K mg base (k+1) c m (A_ (N.take np).length N.length b):=
 let ⟨C,fa,fd,h1,h2,h3,F⟩:=a.ex
 ⟨C,fa,fd,_,h1,h2,h3,F.binds hb,Kr N b F S h⟩
theorem IA.cl(a:IA K mg c q st){N:List Str}{np:Nat}{b:MS}(hb:Bd "__init__" q st (N.take np))(h:Ir P w K mg base q st k N b)(S:Sc N np st:=by exact ⟨rfl,rfl,rfl,by decide+kernel,rfl,by decide+kernel,by decide+kernel⟩):
  Vj (L2.CX P w) P w K mg base (k+1) c (A_ (N.take np).length N.length b):=
 let ⟨C,fa,fd,h1,h2,F⟩:=a.ex
 ⟨C,fa,fd,_,h1,h2,F.binds hb,Kr N b F S h⟩
theorem LA.r(a:LA K mg x q st)(hb:Bd "__init__" q st [Str.ofString "self",Str.ofString "reason"]){p1 p2 p3 p4:Pos}
  (hd:defBody st=[.Assign [.Attribute (.Name (Str.ofString "self") p1) (Str.ofString "reason") p2] (.Name (Str.ofString "reason") p3) p4]:=by exact rfl) (l1:(defScope st).names.lookup (Str.ofString "self")=some .local:=by exact rfl) (l2:(defScope st).names.lookup (Str.ofString "reason")=some .local:=by exact rfl)
  (S:FnScope [Str.ofString "self",Str.ofString "reason"] [Str.ofString "self",Str.ofString "reason"] (defScope st):=by exact ⟨rfl,rfl,rfl,by decide+kernel,rfl,by decide+kernel,by decide+kernel⟩):Jx P w K mg base x:=
 let ⟨C,fi,fd,h1,h2,h3,h4,F⟩:=a.ex
 ⟨C,fi,fd,h1,h2,h3,h4,F.binds hb,aN F S hd l1 l2 h2⟩
theorem LA.z(a:LA K mg x q st)(hb:Bd "__init__" q st [Str.ofString "self",Str.ofString "reason"]){p1 p2 p3 p4:Pos}
  (hd:defBody st=[.Assign [.Attribute (.Name (Str.ofString "self") p1) (Str.ofString "reason") p2] (.Name (Str.ofString "reason") p3) p4]:=by exact rfl) (l1:(defScope st).names.lookup (Str.ofString "self")=some .local:=by exact rfl) (l2:(defScope st).names.lookup (Str.ofString "reason")=some .local:=by exact rfl)
  (S:FnScope [Str.ofString "self",Str.ofString "reason"] [Str.ofString "self",Str.ofString "reason"] (defScope st):=by exact ⟨rfl,rfl,rfl,by decide+kernel,rfl,by decide+kernel,by decide+kernel⟩):Vw P w K mg base x:=
 let ⟨C,fi,fd,h1,h2,h3,h4,F⟩:=a.ex
 ⟨C,fi,fd,h1,h2,h3,h4,F.binds hb,aO F S hd l1 l2 h2⟩
theorem FA.law{fa:Addr}(a:FA K mg "law" st)(hfa:mg "law"=some (.ref fa)){N:List Str}{b:MS}(hb:Bd "law" "law" st (N.take 1))(h:∀base,Ir P w K mg base "law" st k N b)(hl:(N.take 1).length=1:=by exact rfl)(S:Sc N 1 st:=by exact ⟨rfl,rfl,rfl,by decide+kernel,rfl,by decide+kernel,by decide+kernel⟩):
  ∃fd:FuncData,(∀(s:Shared) (v:Value),BindsTo s fd ⟨[v],[]⟩ ((N.take 1).zip [v]))∧∀base:Heap,K.In base→base.Ns mainGlobals mg→FnOk P w K mg base (L2.CX P w) (k+1) fa fd (N.take 1) (Ck K mg (A_ (N.take 1).length N.length b)):=by
 obtain ⟨fb,fd,h1,h2,F⟩:=a.ex
 have e:=hfa.symm.trans h1
 cases e
 have F':=F
 obtain ⟨⟨oc,od,kV,doc,pm,an,cdv,ct,osl,rfl,lk,hcd⟩,kp⟩:=F
 exact ⟨_,fun s v=>.of_eq (hb kV doc pm an cdv ct [v] hl.symm),fun base _ _=>Kr N b F' S (h base)⟩
end
end HM
namespace HE
open PySem L2 PySem.Spec PyProof.Rows PySem.W
abbrev gA(K:PySem.W.Frag)(x:String):Addr:=He.ga K (Str.ofString x)
def Di(x:String)(K:PySem.W.Frag):Bool:=decide (nsIn K mainGlobals (Str.ofString x)=some (some (.ref (gA K x))))
def tN(x:String)(K:PySem.W.Frag):Bool:=decide (nsIn K mainGlobals (Str.ofString x)=some none)
def tF(x:String)(K:PySem.W.Frag):Bool:=Di x K&&keepIn K (.ref (gA K x))
def tC(c:String)(K:PySem.W.Frag):Bool:=Di c K&&(plainGet K (gA K c) Str.empty&&(hasDictIn K (gA K c)&&(plainOver K (gA K c)&&decide (findIn K (.ref (gA K c)) "__setattr__"=some (some (.builtin "object.__setattr__"))))))
def tI(c:String)(K:PySem.W.Frag):Bool:=makesIn K (gA K c)&&keepIn K (.ref (gA K c))
def tX(x:String)(K:PySem.W.Frag):Bool:=Di x K&&(keepIn K (.ref (gA K x))&&(decide (subIn K (.ref (gA K x)) (.type "BaseException")=some true)&&decide (typeIn K (.ref (gA K x))=some (.type "type"))))
def tV(x:String)(K:PySem.W.Frag):Bool:=excIn K (gA K x) fX "ValueError.__new__"
def tL(x:String)(K:PySem.W.Frag):Bool:=NP K (gA K x)&&(decide (findIn K (.ref (gA K x)) "__setattr__"=some (some (.builtin "object.__setattr__")))&&(decide (findIn K (.ref (gA K x)) "reason"=some none)&&
 (decide (findIn K (.ref (gA K x)) "__init__"=some (some (.ref (He.fAd K (Str.ofString x,some "__init__")))))&&(decide (typeIn K (.ref (He.fAd K (Str.ofString x,some "__init__")))=some (.type "function"))&&keepIn K (.ref (He.fAd K (Str.ofString x,some "__init__")))))))
def tY(y:String)(K:PySem.W.Frag):Bool:=isClsIn K (gA K y)
def EX:List String:=["ChartError","BadText","BadDocument","BadKey","BadState","DiskError","DiskCrashed","Refused","BadAct"]
def ml(y:String):List (String×Bool):=EX.map fun x=>(x,decide (x=y)||decide (y="ChartError"))
def tP(y:String)(K:PySem.W.Frag):Bool:=(ml y).all fun p=>tN p.1 K||(Di p.1 K&&decide (subIn K (.ref (gA K p.1)) (.ref (gA K y))=some p.2))
def tO(K:PySem.W.Frag):Bool:=decide (specialIn K (.builtin "object.__class__") "__get__"=some (some (.builtin "getset_descriptor.__get__")))&&decide (takesIn K (.builtin "object.__class__")=some true)
def tQ(y:String)(K:PySem.W.Frag):Bool:=(ml y).all fun p=>tN p.1 K||(Di p.1 K&&(decide (kitOne K (.ref (gA K p.1)) (.ref (gA K y))=some p.2)&&(xfB K (gA K p.1)&&(decide (findIn K (.ref (gA K p.1)) "__class__"=some (some (.builtin "object.__class__")))&&decide (mroIn K (gA K p.1) (.type "object")=some true)))))
def tR(K:PySem.W.Frag):Bool:=["Refused","BadAct"].all fun x=>tN x K||(Di x K&&(xfB K (gA K x)&&decide (findIn K (.ref (gA K x)) "reason"=some none)))
def tZ(x:String)(i:Int)(K:PySem.W.Frag):Bool:=Nk K (Str.ofString x) i
def tT(x:String)(l:List String)(K:PySem.W.Frag):Bool:=Va K (Str.ofString x) l
def dF(x:String)(st:Stmt):He.FnD:=⟨(Str.ofString x,none),Str.ofString x,Str.ofString x,defArgs st,defBody st,defScope st⟩
def dM(c m q:String)(st:Stmt):He.FnD:=⟨(Str.ofString c,some (Str.ofString m)),Str.ofString m,Str.ofString q,defArgs st,defBody st,defScope st⟩
end HE
namespace HM
open PySem L2 PySem.Spec PyProof.Rows HE L
section
variable{ft:List (PySem.W.Frag→Bool)}{fn:List He.FnD}{K:PySem.W.Frag}{h:Heap}{mg:Str→Option Value}(X:K.In h)(G:h.Ns mainGlobals mg)(s:Em ft fn K)
include X G s
theorem Nq{x:String}(q:Di x K=true):mg (Str.ofString x)=some (.ref (gA K x)):=PySem.W.mg_of X G (of_decide_eq_true q)
theorem FJ(i:Nat){x:String}(h1:ft[i]? =some (tN x):=by exact rfl):mg (Str.ofString x)=none:=
 PySem.W.mg_none_of X G (of_decide_eq_true (s.fact i h1))
theorem Eo(i j:Nat){x:String}{st:Stmt}(h1:ft[i]? =some (tF x):=by exact rfl)(h2:fn[j]? =some (dF x st):=by exact rfl):FA K mg x st:=by
 obtain ⟨oc,od,osl,kV,doc,pm,an,cdv,ct,l,cc⟩:=s.def_ j h2
 obtain ⟨a,k⟩:=He.ba (s.fact i h1)
 exact ⟨_,_,Nq X G s a,k,fun_mk l cc k⟩
theorem Jl{x:String}(q:tX x K=true):mg (Str.ofString x)=some (.ref (gA K x))∧PySem.W.keepIn K (.ref (gA K x))=true∧PySem.W.subIn K (.ref (gA K x)) (.type "BaseException")=some true∧PySem.W.typeIn K (.ref (gA K x))=some (.type "type"):=by
 obtain ⟨a,q⟩:=He.ba q
 obtain ⟨q1,q⟩:=He.ba q
 obtain ⟨q2,q3⟩:=He.ba q
 exact ⟨Nq X G s a,q1,of_decide_eq_true q2,of_decide_eq_true q3⟩
theorem FZ(i:Nat){x:String}(h0:ft[i]? =some (tX x):=by exact rfl):∃C,mg (Str.ofString x)=some (.ref C):=⟨_,(Jl X G s (s.fact i h0)).1⟩
theorem Hg(i k:Nat){x:String}(h0:ft[i]? =some (tX x):=by exact rfl)(h1:ft[k]? =some (tV x):=by exact rfl):∃C,XC K mg x C:=
 let ⟨a,b,c,d⟩:=Jl X G s (s.fact i h0)
 ⟨_,a,s.fact k h1,b,c,d⟩
theorem R5(i k j:Nat){x q:String}{st:Stmt}(h0:ft[i]? =some (tX x):=by exact rfl)(h1:ft[k]? =some (tL x):=by exact rfl)(h2:fn[j]? =some (dM x "__init__" q st):=by exact rfl):LA K mg x q st:=by
 obtain ⟨a,b,c,d⟩:=Jl X G s (s.fact i h0)
 obtain ⟨oc,od,osl,kV,doc,pm,an,cdv,ct,l,cc⟩:=s.def_ j h2
 obtain ⟨q1,q⟩:=He.ba (s.fact k h1)
 obtain ⟨q2,q⟩:=He.ba q
 obtain ⟨q3,q⟩:=He.ba q
 obtain ⟨q4,q⟩:=He.ba q
 obtain ⟨q5,q6⟩:=He.ba q
 exact ⟨_,_,_,a,⟨⟨Xh q1,of_decide_eq_true q2,c,d,b⟩,of_decide_eq_true q3⟩,of_decide_eq_true q4,of_decide_eq_true q5,fun_mk l cc q6⟩
theorem Ds(i:Nat){x:String}{z:Int}(h0:ft[i]? =some (tZ x z):=by exact rfl):∃t,mg (Str.ofString x)=some (.int z t):=
 let ⟨t,e⟩:=Yg (s.fact i h0)
 ⟨t,PySem.W.mg_of X G e⟩
theorem fP(i:Nat){x:String}{l:List String}(h0:ft[i]? =some (tT x l):=by exact rfl):GT K mg (Str.ofString x) l:=fQ X G (s.fact i h0)
theorem Jy{x:String}{b:Bool}{C₀:Addr}{T:Bool}(hC:mg (Str.ofString x)=some (.ref C₀))(q:(tN x K||(Di x K&&T))=true):mg (Str.ofString x)=some (.ref (gA K x))∧T=true:=by
 rcases Bool.or_eq_true_iff.mp q with z|z
 ·rw [PySem.W.mg_none_of X G (of_decide_eq_true z)] at hC;cases hC
 ·obtain ⟨a,b⟩:=He.ba z
  exact ⟨Nq X G s a,b⟩
theorem Fg(i k n:Nat){y:String}{mt:String→Option Bool}(hl:∀x b,mt x=some b→(x,b)∈ml y)(h0:ft[i]? =some (tX y):=by exact rfl)(h1:ft[k]? =some (tY y):=by exact rfl)(h2:ft[n]? =some (tP y):=by exact rfl):Dd K mg y mt:=by
 intro x b C₀ hC hx
 obtain ⟨g,_,e4,e5⟩:=Jl X G s (s.fact i h0)
 have q:=List.all_eq_true.mp (show ((ml y).all fun p=>tN p.1 K||(Di p.1 K&&decide (PySem.W.subIn K (.ref (gA K p.1)) (.ref (gA K y))=some p.2)))=true from s.fact n h2) _ (hl x b hx)
 obtain ⟨g',e7⟩:=Jy (b:=b) X G s hC q
 exact ⟨_,_,g',g,Xk e4 (s.fact k h1) e5 (of_decide_eq_true e7)⟩
theorem Gi(i k n:Nat){y:String}{mt:String→Option Bool}(hl:∀x b,mt x=some b→(x,b)∈ml y)(h0:ft[i]? =some (tX y):=by exact rfl)(h1:ft[k]? =some tO:=by exact rfl)(h2:ft[n]? =some (tQ y):=by exact rfl):El K mg y mt:=by
 intro x b C₀ hC hx
 obtain ⟨g,_,e4,e5⟩:=Jl X G s (s.fact i h0)
 have q:=List.all_eq_true.mp (show ((ml y).all fun p=>tN p.1 K||(Di p.1 K&&(decide (PySem.W.kitOne K (.ref (gA K p.1)) (.ref (gA K y))=some p.2)&&(xfB K (gA K p.1)&&(decide (PySem.W.findIn K (.ref (gA K p.1)) "__class__"=some (some (.builtin "object.__class__")))&&decide (PySem.W.mroIn K (gA K p.1) (.type "object")=some true))))))=true from s.fact n h2) _ (hl x b hx)
 obtain ⟨g',e7⟩:=Jy (b:=b) X G s hC q
 obtain ⟨e8,e7⟩:=He.ba e7
 obtain ⟨e9,e7⟩:=He.ba e7
 obtain ⟨e10,M9⟩:=He.ba e7
 obtain ⟨o1,o2⟩:=He.ba (s.fact k h1)
 have f:=xfB_ok e9
 exact ⟨_,_,g',g,of_decide_eq_true e8,⟨f.ga,f.gg,f.exC,f.hdC,of_decide_eq_true e10,of_decide_eq_true o1,of_decide_eq_true o2,of_decide_eq_true M9⟩⟩
theorem gj(i:Nat)(h0:ft[i]? =some tR:=by exact rfl):MP K mg rt:=by
 refine ⟨fun x C hC hx=>?_⟩
 have hm:x∈["Refused","BadAct"]:=by
  unfold rt at hx
  split at hx
  ·rename_i e;subst e;exact List.mem_cons_self ..
  ·split at hx
   ·rename_i e;subst e;exact List.mem_cons_of_mem _ (List.mem_cons_self ..)
   ·cases hx
 have q:=List.all_eq_true.mp (show (["Refused","BadAct"].all fun x=>tN x K||(Di x K&&(xfB K (gA K x)&&decide (PySem.W.findIn K (.ref (gA K x)) "reason"=some none))))=true from s.fact i h0) _ hm
 obtain ⟨g',e⟩:=Jy (b:=true) X G s hC q
 rw [hC] at g'
 injection g' with g'
 injection g' with g'
 subst g'
 obtain ⟨e1,e2⟩:=He.ba e
 exact ⟨xfB_ok e1,of_decide_eq_true e2⟩
end
theorem Sd:∀x b,Ec x=some b→(x,b)∈ml "ChartError":=by
 intro x b h;unfold Ec at h;repeat' (split at h)
 all_goals first|cases h;subst_vars;decide+kernel|cases h
theorem SQ:∀x b,Gn x=some b→(x,b)∈ml "BadText":=by
 intro x b h;unfold Gn at h;repeat' (split at h)
 all_goals first|cases h;subst_vars;decide+kernel|cases h
theorem SJ:∀x b,Gj x=some b→(x,b)∈ml "BadDocument":=by
 intro x b h;unfold Gj at h;repeat' (split at h)
 all_goals first|cases h;subst_vars;decide+kernel|cases h
theorem SM:∀x b,Gk x=some b→(x,b)∈ml "BadKey":=by
 intro x b h;unfold Gk at h;repeat' (split at h)
 all_goals first|cases h;subst_vars;decide+kernel|cases h
theorem SN:∀x b,Gm x=some b→(x,b)∈ml "BadState":=by
 intro x b h;unfold Gm at h;repeat' (split at h)
 all_goals first|cases h;subst_vars;decide+kernel|cases h
theorem Sq:∀x b,Gq x=some b→(x,b)∈ml "DiskError":=by
 intro x b h;unfold Gq at h;repeat' (split at h)
 all_goals first|cases h;subst_vars;decide+kernel|cases h
theorem Sh:∀x b,Gp x=some b→(x,b)∈ml "DiskCrashed":=by
 intro x b h;unfold Gp at h;repeat' (split at h)
 all_goals first|cases h;subst_vars;decide+kernel|cases h
theorem Sv:∀x b,Fl x=some b→(x,b)∈ml "Refused":=by
 intro x b h;unfold Fl at h;repeat' (split at h)
 all_goals first|cases h;subst_vars;decide+kernel|cases h
theorem R_:∀x b,Fj x=some b→(x,b)∈ml "BadAct":=by
 intro x b h;unfold Fj at h;repeat' (split at h)
 all_goals first|cases h;subst_vars;decide+kernel|cases h
end HM
namespace HE
open PySem L2 PySem.Spec PyProof.Rows PySem.W
def tB(y:String)(b:Bool)(K:PySem.W.Frag):Bool:=EX.all fun x=>tN x K||(Di x K&&(decide (kitOne K (.ref (gA K x)) (.type y)=some b)&&(xfB K (gA K x)&&(decide (findIn K (.ref (gA K x)) "__class__"=some (some (.builtin "object.__class__")))&&decide (mroIn K (gA K x) (.type "object")=some true)))))
end HE
namespace HM
open PySem L2 PySem.Spec PyProof.Rows HE L
abbrev Vg(P:Program)(w:World)(K:PySem.W.Frag)(mg:Str→Option Value)(base:Heap)(q:String)(st:Stmt)(k:Nat)(N:List Str)(b:XO→Addr×Addr→MS):Prop:=
 ∀(fa:Addr) (cdv:Value) (A:Around) (outer:List Env) (s:Shared) (H:Hp) (E:XK) (a:Addr) (oe:Obj) (x:XO) (C0:Addr) (d:Option Addr),G6 mg x C0 d oe→L2H.RoomH k (A.deeper (envOfC (Str.ofString q) (defScope st) s.heap.objs.size fa cdv))→N.Nodup→
  Cp (L2H.cxH (L2.CX P w) P w K mg base N (Str.ofString q) (defScope st) fa cdv A outer s H E (a,oe)) (fun c d _ H=>E c d H) (defBody st) (b x (a,d.getD 0))
section
variable{P:Program}{w:World}{K:PySem.W.Frag}{mg:Str→Option Value}{base:Heap}{x c q m:String}{st:Stmt}{k np:Nat}
theorem FA.xl(a:FA K mg x st){N:List Str}{np:Nat}{b:XO→Addr×Addr→MS}(hb:Bd x x st (N.take np))(h:Vg P w K mg base x st k N b)(S:Sc N np st:=by exact ⟨rfl,rfl,rfl,by decide+kernel,rfl,by decide+kernel,by decide+kernel⟩):
  Ls P w K mg base (k+1) x fun y p=>A_ (N.take np).length N.length (b y p):=
 let ⟨fa,fd,h1,h2,F⟩:=a.ex
 ⟨fa,fd,_,h1,h2,F.binds hb,fun a oe y C0 d su=>okX F S fun cdv A outer s H E hr=>h fa cdv A outer s H E a oe y C0 d su hr S.nd⟩
end
def Ie(x:XO)(z:Option D)(b:Option Bool)(h:LH):Res D:=match b with
 |some c=>if z.isSome=true∨Fp x=true then .ok (.bl c) h else .bad
 |none=>.bad
theorem Xj(x:XO)(p:Addr×Addr)(b:Option Bool)(z:Option D)(r:EN)(h:LH):Bg x p b (Aa 0) (some (Ac p z)::r) h=Ie x z b h:=by
 unfold Bg Aa Ie Ac
 cases z<;>cases b<;>simp [Res.bind]
theorem V8{A B:Addr×Addr→M D}(uA:Uq 0 A)(uB:Uq 0 B)(p p2:Addr×Addr)(z:Option D)(h:LH):A_ 1 2 (Ak (BL 1 (A p)) (Ak (BL 1 (Af Bb (Aa 1) (B p))) (Aq (Aa 1)))) [Ac p z] h=A_ 1 2 (Ak (BL 1 (A p2)) (Ak (BL 1 (Af Bb (Aa 1) (B p2))) (Aq (Aa 1)))) [Ac p2 z] h:=by
 have hA:A p [some (Ac p z),none] h=A p2 [some (Ac p2 z),none] h:=congrFun (uA p p2 z [none,none]) h
 have key:∀q,A_ 1 2 (Ak (BL 1 (A q)) (Ak (BL 1 (Af Bb (Aa 1) (B q))) (Aq (Aa 1)))) [Ac q z] h=(A q [some (Ac q z),none] h).bind fun a h1=>(B q [some (Ac q z),some a] h1).bind fun y h2=>Bb a y h2:=by
  intro q
  unfold A_
  rw [if_pos (show [Ac q z].length=1 from rfl)]
  show (match Ak (BL 1 (A q)) (Ak (BL 1 (Af Bb (Aa 1) (B q))) (Aq (Aa 1))) [some (Ac q z),none] h with
   | .next _ h=>Res.ok D.non h
   | .ret d h=>.ok d h
   | .exc x _ h=>.exc x h
   | .brk _ _=>.bad
   | .cnt _ _=>.bad
   | .bad=>.bad)=_
  unfold Ak BL Ay
  dsimp only
  cases A q [some (Ac q z),none] h with
  |ok a h1=>
   show (match (match Ay ((Af Bb (Aa 1) (B q)) [some (Ac q z),some a] h1) [some (Ac q z),some a] (fun x h2=>.next [some (Ac q z),some x] h2) with
    | .next e1 h1=>Aq (Aa 1) e1 h1
    | .ret d h1=>.ret d h1
    | .brk e1 h1=>.brk e1 h1
    | .cnt e1 h1=>.cnt e1 h1
    | .exc x e1 h1=>.exc x e1 h1
    | .bad=>.bad) with
   | .next _ h=>Res.ok D.non h
   | .ret d h=>.ok d h
   | .exc x _ h=>.exc x h
   | .brk _ _=>.bad
   | .cnt _ _=>.bad
   | .bad=>.bad)=(B q [some (Ac q z),some a] h1).bind fun y h2=>Bb a y h2
   have e:(Af Bb (Aa 1) (B q)) [some (Ac q z),some a] h1=(B q [some (Ac q z),some a] h1).bind fun y h2=>Bb a y h2:=rfl
   rw [e]
   cases (B q [some (Ac q z),some a] h1).bind fun y h2=>Bb a y h2 with
   |ok y h2=>rfl
   |exc x h2=>rfl
   |bad=>rfl
  |exc x h1=>rfl
  |bad=>rfl
 rw [key,key,hA]
 cases A p2 [some (Ac p2 z),none] h with
 |ok a h1=>
  have hB:B p [some (Ac p z),some a] h1=B p2 [some (Ac p2 z),some a] h1:=congrFun (uB p p2 z [none,some a]) h1
  show (B p [some (Ac p z),some a] h1).bind _=(B p2 [some (Ac p2 z),some a] h1).bind _
  rw [hB]
 |exc x h1=>rfl
 |bad=>rfl
def Ij:String→Option Bool:=fun x=>(Ec x).map fun _=>false
section
variable{ft:List (PySem.W.Frag→Bool)}{fn:List He.FnD}{K:PySem.W.Frag}{h:Heap}{mg:Str→Option Value}(X:K.In h)(G:h.Ns mainGlobals mg)(s:Em ft fn K)
include X G s
theorem Ry(k n:Nat){y:String}{v:Bool}{mt:String→Option Bool}(hl:∀x b,mt x=some b→x∈EX∧b=v)(h1:ft[k]? =some tO:=by exact rfl)(h2:ft[n]? =some (tB y v):=by exact rfl):Ju K mg y mt:=by
 intro x b C₀ hC hx
 obtain ⟨hm,rfl⟩:=hl x b hx
 have q:=List.all_eq_true.mp (show (EX.all fun x=>tN x K||(Di x K&&(decide (PySem.W.kitOne K (.ref (gA K x)) (.type y)=some b)&&(xfB K (gA K x)&&(decide (PySem.W.findIn K (.ref (gA K x)) "__class__"=some (some (.builtin "object.__class__")))&&decide (PySem.W.mroIn K (gA K x) (.type "object")=some true))))))=true from s.fact n h2) _ hm
 obtain ⟨g',e7⟩:=Jy (b:=b) X G s hC q
 obtain ⟨e8,e7⟩:=He.ba e7
 obtain ⟨e9,e7⟩:=He.ba e7
 obtain ⟨e10,M9⟩:=He.ba e7
 obtain ⟨o1,o2⟩:=He.ba (s.fact k h1)
 have f:=xfB_ok e9
 exact ⟨_,g',of_decide_eq_true e8,⟨f.ga,f.gg,f.exC,f.hdC,of_decide_eq_true e10,of_decide_eq_true o1,of_decide_eq_true o2,of_decide_eq_true M9⟩⟩
end
theorem Sw{x:String}{b:Bool}(h:Ec x=some b):x∈EX∧b=true:=by
 have q:=Sd x b h
 revert q
 unfold ml
 intro q
 obtain ⟨y,hy,e⟩:=List.mem_map.mp q
 injection e with e1 e2
 subst e1
 exact ⟨hy,by rw [←e2];simp⟩
theorem Z8:∀x b,Ec x=some b→x∈EX∧b=true:=fun x b h=>Sw h
theorem Z7:∀x b,Ij x=some b→x∈EX∧b=false:=by
 intro x b h
 unfold Ij at h
 cases e:Ec x with
 |none=>rw [e] at h;cases h
 |some c=>rw [e] at h;injection h with h;exact ⟨(Sw e).1,h.symm⟩
end HM
namespace G
open PySem L2 PySem.Spec PyProof.Rows
def top(i:Nat):Stmt:=PySem.Challenge.pw_sealchart_k11_errors_and_limits.main.body.getD i (.Pass ⟨0,0,0,0⟩)
abbrev U3:Stmt:=top 24
abbrev U9:Stmt:=top 25
abbrev U_:Stmt:=top 26
abbrev U4:Stmt:=top 27
abbrev Ox:Stmt:=top 28
abbrev U5:Stmt:=top 29
abbrev U7:Stmt:=top 30
abbrev U8:Stmt:=top 31
abbrev U6:Stmt:=top 32
abbrev Oz:Stmt:=top 33
abbrev U0:Stmt:=inClass (top 8) 0
abbrev Uz:Stmt:=inClass (top 9) 0
end G
namespace GH
open PySem PySem.W PySem.Calls PySem.Spec PyProof.Rows L2 HE G
abbrev R:PySem.W.OpenRow:=PySem.W.OpenLaw.row PySem.Challenge.rw_sealchart_k11_errors_and_limits
def cl:List PySem.Str:=["BadAct","BadDocument","BadKey","BadState","BadText","ChartError","DiskCrashed","DiskError","REASONS","Refused"]
def Xr:List He.FnD:=[dF "_law_cell" U3,dF "_law_stream" U9,dF "_law_take" U_,dF "_law_char" U4,dF "_law_string" Ox,dF "_law_kinds" U5,dF "_law_raised" U7,dF "_law_reason" U8,dF "_law_limits" U6,dF "law" Oz,dM "Refused" "__init__" "Refused.__init__" U0,dM "BadAct" "__init__" "BadAct.__init__" Uz]
def fL:List (PySem.W.Frag→Bool):=[tN "LookupError",tN "ValueError",tN "bool",tN "int",tN "isinstance",tN "len",tN "list",tN "range",tN "str",tN "tuple",tX "ChartError",tV "ChartError",tX "BadText",tV "BadText",tX "BadDocument",tV "BadDocument",tX "BadKey",tV "BadKey",tX "BadState",tV "BadState",tX "DiskError",tV "DiskError",tX "DiskCrashed",tV "DiskCrashed",tX "BadAct",tY "BadAct",tP "BadAct",tY "BadDocument",tP "BadDocument",tY "BadKey",tP "BadKey",tY "BadState",tP "BadState",tY "BadText",tP "BadText",tY "ChartError",tP "ChartError",tY "DiskCrashed",tP "DiskCrashed",tY "DiskError",tP "DiskError",tX "Refused",tY "Refused",tP "Refused",tO,tQ "BadAct",tQ "BadDocument",tQ "BadKey",tQ "BadState",tQ "BadText",tQ "DiskCrashed",tQ "DiskError",tQ "Refused",tB "LookupError" false,tB "ValueError" true,tZ "MOST_CHARTER" 4000,tZ "MOST_DEPTH" 8,tZ "MOST_DIGITS" 20,tZ "MOST_GOODS" 64,tZ "MOST_KEYS" 16,tZ "MOST_LISTS" 32,tZ "MOST_NUMBER" 1000000000000,tZ "MOST_PATH" 60,tZ "MOST_SEALS" 32,tZ "MOST_STAMP" 2000,tZ "MOST_TEXT" 100000,tZ "MOST_TURNS" 16,tT "REASONS" ["form","seals","version","length","digest","role","expired","missing"],tR,tF "_law_cell",tF "_law_stream",tF "_law_take",tF "_law_char",tF "_law_string",tF "_law_kinds",tF "_law_raised",tF "_law_reason",tF "_law_limits",tF "law",tL "Refused",tL "BadAct"]
def fn:List He.FnD:=Xr
def ft:List (PySem.W.Frag→Bool):=fL
def aC:List PySem.Str:=["ChartError","BadText","BadDocument","BadKey","BadState","DiskError","DiskCrashed","Refused","BadAct","MOST_NUMBER","MOST_DIGITS","MOST_DEPTH","MOST_TEXT","MOST_KEYS","MOST_SEALS","MOST_CHARTER","MOST_STAMP","MOST_LISTS","MOST_GOODS","MOST_TURNS","MOST_PATH","REASONS","_law_cell","_law_stream","_law_take","_law_char","_law_string","_law_kinds","_law_raised","_law_reason"]
def S8:List PySem.Str:=["_law_limits"]
def names:List PySem.Str:=aC++S8
abbrev qv:Program:=view R.prog [33]
abbrev hk:PySem.W.Hook:=Rh cl fn ft fn
def ob(s:PySem.W.SharedT):GD:=N6 cl fn ft fn (HandSHeadRun.getT s)
theorem aH(s:PySem.W.SharedT):ob s=hk.obs s.abs:=aJ (HandSHeadRun.getT_eq s)
theorem run(w:World):HandSHeadRun.RunEq R qv hk ob 8000 names w:=by
 intro os
 kernel_rfl
end GH
namespace L
open PySem L2 HM
def cM:MS:=(BL 3 (Ew "Workshop" "charters" Xl (Aa 0) Ag))
def cO:MS:=(BJ (CN (Bs (Bh (Bq .list (Aa 3)))) (Bc (Af CT (Am Bu (Ab (Aa 3) Ag)) (Am Bu (Ab (Aa 1) Ag))))) (Aq (mC (.bl false))) BW)
def cQ:MS:=(BJ (CN (Bs (Bh (Am Gg (Ab (Af BP (Aa 3) (Aa 4)) (Ab (Af BP (Aa 1) (Aa 4)) Ag))))) (Bs (Bh (Am Gg (Ab (Ew "Workshop" "text" RL (Aa 0) (Ab (Af Bb (Am Q6 (Ab (Af Bb (Aa 4) (mC (.int 1))) Ag)) (mC (S ".charter"))) Ag)) (Ab (Af BP (Aa 2) (Aa 4)) Ag)))))) (Aq (mC (.bl false))) BW)
def cP:MS:=(Fv (Dq (Ab (Am Bu (Ab (Aa 1) Ag)) Ag)) (.nm 4) cQ)
def cR:MS:=(BJ (Bc (Af Wn (Ew "Workshop" "text" RL (Aa 0) (Ab (Af Bb (Am Q6 (Ab (Af Bb (Am Bu (Ab (Aa 1) Ag)) (mC (.int 1))) Ag)) (mC (S ".charter"))) Ag)) (mC .non))) (Aq (mC (.bl false))) BW)
def cU:MS:=(Aq (Fe (Am Gg (Ab (Ew "Workshop" "first" Xm (Aa 0) Ag) (Ab (Af BP (Aa 2) (mC (.int 0))) Ag))) (Af Bm (Am Bu (Ab (Ew "Workshop" "names" Xn (Aa 0) Ag) Ag)) (Am Bu (Ab (Aa 1) Ag)))))
def V6:MS:=(Ak cM (Ak cO (Ak cP (Ak cR cU))))
def j5:MF:=A_ 3 5 V6
end L
namespace L
open PySem L2 HM
end L
namespace HM
open PySem L2 PySem.Spec PyProof.Rows
section
variable{K:PySem.W.Frag}{mg:Str→Option Value}{φ:Nat→Addr}{n:Nat}{H:Hp}{d:Addr}{od:Obj}{vs:List (Key×V)}
theorem d9(hd:H d=some (.frz od (.dK vs))){a:Addr}{ws:List V}(h:SqT K H a ws):SqT K (upd H d (.dK vs)) a ws:=by
 rcases h with (h|⟨o,h⟩)|h
 ·exact .inl (.inl (by rw [upd_ne (fun z=>by rw [z,hd] at h;cases h)];exact h))
 ·exact .inl (.inr ⟨o,by rw [upd_ne (fun z=>by rw [z,hd] at h;cases h)];exact h⟩)
 ·exact .inr h
mutual
theorem RD.Bx(hd:H d=some (.frz od (.dK vs))):∀{x:D} {v:V},RD K φ n H x v→RD K φ n (upd H d (.dK vs)) x v
 |_,_,.non=>.non
 |_,_,.bl b=>.bl b
 |_,_,.int i=>.int i
 |_,_,.str s=>.str s
 |_,_,.tup h r=>.tup (d9 hd h) (Aj.Bx hd r)
 |_,_,.ref h=>.ref h
 |_,_,.Ar h=>.Ar (h.imp (fun ⟨o,h⟩=>⟨o,by rw [upd_ne (fun z=>by rw [z,hd] at h;cases h)];exact h⟩) id)
 |_,_,.Cg a=>.Cg a
 |_,_,.Bv a dx h r=>.Bv a dx (by rw [upd_ne (fun z=>by rw [z,hd] at h;cases h)];exact h) (RD.Bx hd r)
theorem Aj.Bx(hd:H d=some (.frz od (.dK vs))):∀{x:List D} {v:List V},Aj K φ n H x v→Aj K φ n (upd H d (.dK vs)) x v
 |_,_,.nil=>.nil
 |_,_,.cons h r=>.cons (RD.Bx hd h) (Aj.Bx hd r)
end
theorem RF.Bx(hd:H d=some (.frz od (.dK vs))){x v}(r:RF K φ n H x v):RF K φ n (upd H d (.dK vs)) x v:=by
 induction r with
 |nil=>exact .nil
 |cons h _ ih=>exact .cons (h.Bx hd) ih
theorem C_.Bx(hd:H d=some (.frz od (.dK vs))){x v}(r:C_ K φ n H x v):C_ K φ n (upd H d (.dK vs)) x v:=by
 induction r with
 |nil=>exact .nil
 |cons h _ ih=>exact .cons (h.Bx hd) ih
theorem D_.Bx(hd:H d=some (.frz od (.dK vs))){x v}(r:D_ K φ n H x v):D_ K φ n (upd H d (.dK vs)) x v:=by
 induction r with
 |nil=>exact .nil
 |cons h _ ih=>exact .cons (h.Bx hd) ih
theorem OA.Bx(hd:H d=Option.some (.frz od (.dK vs))){a:Addr}(ne:a≠d):∀{o:LO},OA K mg φ n H a o→OA K mg φ n (upd H d (.dK vs)) a o
 | .lst _,⟨ws,h,r⟩=>⟨ws,(upd_ne ne).trans h,r.Bx hd⟩
 | .ins _ _,⟨C,dx,ws,m,h,r⟩=>⟨C,dx,ws,m,(upd_ne ne).trans h,r.Bx hd⟩
 | .dK _,⟨ws,h,r⟩=>⟨ws,(upd_ne ne).trans h,r.Bx hd⟩
 | .dT _,⟨ws,h,r⟩=>⟨ws,(upd_ne ne).trans h,r.Bx hd⟩
 | .dL _,⟨o,ws,h,r⟩=>⟨o,ws,(upd_ne ne).trans h,r.Bx hd⟩
variable{lh:LH}{i:Nat}{kvs:List (KD×D)}
end
section
variable{X:Cx}{W:WX}{e o:Expr}{st:Stmt}{jm m mo:M D}{ms:MS}{tg:Expr}
theorem RS.Bx{K:PySem.W.Frag}{φ:Nat→Addr}{n:Nat}{H:Hp}{d:Addr}{od:Obj}{vs:List (Key×V)}(hd:H d=some (.frz od (.dK vs))){e:EN}{σ:L2.St}(r:RS K φ n H e σ):RS K φ n (upd H d (.dK vs)) e σ:=
 ⟨r.1,fun i x hi=>let ⟨v,ev,rv⟩:=r.2 i x hi;⟨v,ev,rv.Bx hd⟩⟩
end
end HM
namespace L
open PySem L2 HM
end L
namespace HM
open PySem L2 PySem.Spec PyProof.Rows
section
variable{X:Cx}{W:WX}{e:Expr}{ma:M D}
inductive QJ(X:Cx)(W:WX):List Expr→List (M D)→Prop where
 |nil:QJ X W [] []
 |cons {e:Expr} {m:M D} {es:List Expr} {ms:List (M D)} (h:QE X W e m) (r:QJ X W es ms):QJ X W (e::es) (m::ms)
variable{o f:Expr}{mo me mf:M D}{apos cpos:Pos}
end
end HM
namespace L
open PySem L2 HM
end L
namespace HM
open PySem L2 PySem.Spec PyProof.Rows
section
variable{X:Cx}{e:Expr}{te:TE}{p apos cpos pos:Pos}
end
end HM
namespace HM
open PySem L2 PySem.Spec PyProof.Rows
end HM
namespace HM
open PySem L2
section
variable{X:Cx}{W:WX}{mi mi1:M (IT×Nat)}{t t1:TN}{mc k_:M Bool}{my:M D}
end
end HM
namespace L
open PySem L2 HM
end L
namespace G
open PySem L2 HM L
def Mh(x0:XO)(p0:Addr×Addr):MS:=(Ak (BL 1 (Bw (Ab (Bg x0 p0 (Gn x0.cls) (Aa 0)) (Ab (Bg x0 p0 (Gj x0.cls) (Aa 0)) (Ab (Bg x0 p0 (Gk x0.cls) (Aa 0)) (Ab (Bg x0 p0 (Gm x0.cls) (Aa 0)) Ag))))))
  (Ak (BL 1 (Af Bb (Aa 1) (Bw (Ab (Bg x0 p0 (Gq x0.cls) (Aa 0)) (Ab (Bg x0 p0 (Gp x0.cls) (Aa 0)) (Ab (Bg x0 p0 (Fl x0.cls) (Aa 0)) (Ab (Bg x0 p0 (Fj x0.cls) (Aa 0)) Ag)))))))
  (Aq (Aa 1))))
def H_(x0:XO)(p0:Addr×Addr):MF:=A_ 1 2 (Mh x0 p0)
def cV:MS:=(BJ (Bc (Af Bm (Aa 1) (mC (.int 0)))) (Fw "BadText") BW)
def cW:MS:=(BJ (Bc (Af Bm (Aa 1) (mC (.int 1)))) (Fw "BadDocument") BW)
def cX:MS:=(BJ (Bc (Af Bm (Aa 1) (mC (.int 2)))) (Fw "BadKey") BW)
def cY:MS:=(BJ (Bc (Af Bm (Aa 1) (mC (.int 3)))) (Fw "BadState") BW)
def cZ:MS:=(BJ (Bc (Af Bm (Aa 1) (mC (.int 4)))) (Fw "DiskError") BW)
def dB:MS:=(BJ (Bc (Af Bm (Aa 1) (mC (.int 5)))) (Fw "DiskCrashed") BW)
def dD:MS:=(BJ (Bc (Af Bm (Aa 1) (mC (.int 6)))) (Gy "Refused" (Aa 0)) BW)
def dG:MS:=(BJ (Bc (Af Bm (Aa 1) (mC (.int 7)))) (Gy "BadAct" (Aa 0)) BW)
def dH:MS:=(Fw "ChartError")
def Oj:MS:=(Ak cV (Ak cW (Ak cX (Ak cY (Ak cZ (Ak dB (Ak dD (Ak dG dH))))))))
def Mj:MS:=(Jg Oj [.nm Ec 2 (fun x2 p2=>(Aq (Af Bb (Am (H_ x2 p2) (Ab (Aa 2) Ag)) (Bw (Ab (Bg x2 p2 (Ec x2.cls) (Aa 2)) (Ab (Bg x2 p2 (Ij x2.cls) (Aa 2)) Ag))))))])
def JH:MF:=A_ 2 3 Mj
def dJ:MS:=(BJ (Bh (Aa 1)) (Gy "BadAct" (Aa 0)) BW)
def dN:MS:=(Gy "Refused" (Aa 0))
def dI:MS:=(Ak dJ dN)
def Qs:MS:=(Jg dI [.nm Fl 2 (fun x3 p3=>(Aq (HS rt x3 p3 (Aa 2)))),.nm Fj 2 (fun x2 p2=>(Aq (HS rt x2 p2 (Aa 2))))])
def KR:MF:=A_ 2 3 Qs
def Ui:MS:=(BL 0 (Bw (Ab (mC (.int 1000000000000)) (Ab (mC (.int 20)) (Ab (mC (.int 8)) (Ab (mC (.int 100000)) (Ab (mC (.int 16)) (Ab (mC (.int 32)) (Ab (mC (.int 64)) Ag)))))))))
def Uj:MS:=(BL 0 (Af Bb (Aa 0) (Bw (Ab (mC (.int 4000)) (Ab (mC (.int 2000)) (Ab (mC (.int 32)) (Ab (mC (.int 16)) (Ab (mC (.int 60)) Ag))))))))
def Uk:MS:=(BL 1 (Bw (Ab (Af Hv (mC (.int 10)) (mC (.int 12))) (Ab (mC (.int 20)) (Ab (mC (.int 8)) (Ab (mC (.int 100000)) (Ab (mC (.int 16)) (Ab (mC (.int 32)) (Ab (mC (.int 64)) (Ab (mC (.int 4000)) (Ab (mC (.int 2000)) (Ab (mC (.int 32)) (Ab (mC (.int 16)) (Ab (mC (.int 60)) Ag))))))))))))))
def Oi:MS:=(BJ (CN (Bs (Bh (Bq .int (Af BP (Aa 0) (Aa 2))))) (CN (Bh (Bq .bool (Af BP (Aa 0) (Aa 2)))) (Bc (Af CT (Af BP (Aa 0) (Aa 2)) (Af BP (Aa 1) (Aa 2)))))) (Aq (mC (.bl false))) BW)
def Ul:MS:=(Fv (Dq (Ab (mC (.int 12)) Ag)) (.nm 2) Oi)
def Um:MS:=(Aq (mC (.bl true)))
def Mi:MS:=(Ak Ui (Ak Uj (Ak Uk (Ak Ul Um))))
def KQ:MF:=A_ 0 3 Mi
def Ol:MS:=(BL 1 (Am IK (Ab (Am JF (Ab (Aa 0) (Ab (mC (.int 0)) Ag))) Ag)))
def Om:MS:=(BL 2 (Bw (Ab (mC (S "form")) (Ab (mC (S "seals")) (Ab (mC (S "version")) (Ab (mC (S "length")) (Ab (mC (S "digest")) (Ab (mC (S "role")) (Ab (mC (S "expired")) (Ab (mC (S "missing")) Ag))))))))))
def Oo:MS:=(BJ (CN (Bs (Bh (Bq .tuple (mC (.tup (List.map S ["form","seals","version","length","digest","role","expired","missing"])))))) (CN (Bc (Af CT (Am dList (Ab (mC (.tup (List.map S ["form","seals","version","length","digest","role","expired","missing"]))) Ag)) (Aa 2))) (Bs (Bh (Km KQ))))) (Aq (mC (.bl false))) BW)
def Oq:MS:=(BL 3 (Am KY (Ab (Aa 1) (Ab (mC (.int 9)) Ag))))
def K_:MS:=(BJ (Bc (Af Bm (Am FT (Ab (Aa 1) (Ab (mC (.int 2)) Ag))) (mC (.int 0)))) (BL 3 (Af BP (Aa 2) (Am FT (Ab (Aa 1) (Ab (mC (.int 8)) Ag))))) BW)
def LQ:M D:=(Af Bm (Aa 8) (Aa 4))
def Ot:MS:=(BL 5 (Af Bb (Ig (Dq (Ab (mC (.int 8)) Ag)) (.nm 8) Ii LQ [8]) (Bw (Ab (mC (.bl true)) (Ab (mC (.bl false)) Ag)))))
def Ou:MS:=(BJ (Bc (Af CT (Am JH (Ab (Aa 3) (Ab (Aa 4) Ag))) (Aa 5))) (Aq (mC (.bl false))) BW)
def LK:MS:=(Ak Ot Ou)
def Uo:MS:=(Fv (Dq (Ab (mC (.int 9)) Ag)) (.nm 4) LK)
def Us:MS:=(BL 7 (Am KR (Ab (Aa 3) (Ab (Aa 6) Ag))))
def Ut:MS:=(BJ (CN (Bs (Bh (Bq .str (Aa 7)))) (Bc (Af CT (Aa 7) (Aa 3)))) (Aq (mC (.bl false))) BW)
def Ov:MS:=(Ak Us Ut)
def Ur:MS:=(Fv (Nh (Bw (Ab (mC (.bl false)) (Ab (mC (.bl true)) Ag)))) (.nm 6) Ov)
def dO:MS:=(Aq (mC (.bl true)))
def Mr:MS:=(Ak Ol (Ak Om (Ak Oo (Ak Oq (Ak K_ (Ak Uo (Ak Ur dO)))))))
def RM:MF:=A_ 1 9 Mr
end G
namespace G
open PySem L2 PySem.Spec PyProof.Rows HM L
def Vk:List Str:=["_law_script","_law_k"]
def Vr:List Str:=["_law_cell_here"]
def Vs:List Str:=["_law_stream_here","_law_many","_law_worth"]
def Vm:List Str:=["_law_k","_law_chars"]
def Qc:List Str:=["_law_stream_here","_law_most","_law_size","_law_k"]
def Vn:List Str:=["_law_e","_law_kinds_here"]
def Vp:List Str:=["_law_reason_here","_law_k","_law_e"]
def Vq:List Str:=["_law_reason_here","_law_act","_law_e"]
def Vo:List Str:=["_law_sizes","_law_due","_law_k"]
def Qe:List Str:=["_law_script","_law_stream_here","_law_reasons","_law_reason_here","_law_k","_law_due","_law_act","_law_kept","_law_m"]
structure Tx(K:PySem.W.Frag)(mg:Str→Option Value):Prop where
 gq:mg "LookupError"=none
 g8:mg "ValueError"=none
 g_:mg "bool"=none
 Lp:mg "int"=none
 DW:mg "isinstance"=none
 h_:mg "len"=none
 iD:mg "list"=none
 Lq:mg "range"=none
 iG:mg "str"=none
 iH:mg "tuple"=none
 gM:∃C,XC K mg "ChartError" C
 gK:∃C,XC K mg "BadText" C
 gG:∃C,XC K mg "BadDocument" C
 gH:∃C,XC K mg "BadKey" C
 gJ:∃C,XC K mg "BadState" C
 gU:∃C,XC K mg "DiskError" C
 gQ:∃C,XC K mg "DiskCrashed" C
 Zz:Dd K mg "BadAct" Fj
 kE:Dd K mg "BadDocument" Gj
 kJ:Dd K mg "BadKey" Gk
 kW:Dd K mg "BadState" Gm
 kY:Dd K mg "BadText" Gn
 Z0:Dd K mg "ChartError" Ec
 kZ:Dd K mg "DiskCrashed" Gp
 kh:Dd K mg "DiskError" Gq
 Z4:Dd K mg "Refused" Fl
 Y0:El K mg "BadAct" Fj
 Y4:El K mg "BadDocument" Gj
 Y5:El K mg "BadKey" Gk
 Y6:El K mg "BadState" Gm
 Y7:El K mg "BadText" Gn
 Y8:El K mg "DiskCrashed" Gp
 Y9:El K mg "DiskError" Gq
 Y_:El K mg "Refused" Fl
 ZD:Ju K mg "LookupError" Ij
 ZF:Ju K mg "ValueError" Ec
 Xv:∃t,mg "MOST_CHARTER"=some (.int 4000 t)
 Xw:∃t,mg "MOST_DEPTH"=some (.int 8 t)
 Xx:∃t,mg "MOST_DIGITS"=some (.int 20 t)
 Xy:∃t,mg "MOST_GOODS"=some (.int 64 t)
 Xz:∃t,mg "MOST_KEYS"=some (.int 16 t)
 X3:∃t,mg "MOST_LISTS"=some (.int 32 t)
 X4:∃t,mg "MOST_NUMBER"=some (.int 1000000000000 t)
 X5:∃t,mg "MOST_PATH"=some (.int 60 t)
 X6:∃t,mg "MOST_SEALS"=some (.int 32 t)
 X7:∃t,mg "MOST_STAMP"=some (.int 2000 t)
 X8:∃t,mg "MOST_TEXT"=some (.int 100000 t)
 X_:∃t,mg "MOST_TURNS"=some (.int 16 t)
 RQ:GT K mg "REASONS" ["form","seals","version","length","digest","role","expired","missing"]
 Vf:MP K mg rt
 RW:∃C,mg "BadAct"=some (.ref C)
 YB:∃C,mg "BadDocument"=some (.ref C)
 YC:∃C,mg "BadKey"=some (.ref C)
 YD:∃C,mg "BadState"=some (.ref C)
 YF:∃C,mg "BadText"=some (.ref C)
 YG:∃C,mg "ChartError"=some (.ref C)
 YH:∃C,mg "DiskCrashed"=some (.ref C)
 YJ:∃C,mg "DiskError"=some (.ref C)
 RX:∃C,mg "Refused"=some (.ref C)
 i0:FA K mg "_law_cell" U3
 i1:FA K mg "_law_stream" U9
 i2:FA K mg "_law_take" U_
 i3:FA K mg "_law_char" U4
 i4:FA K mg "_law_string" Ox
 i5:FA K mg "_law_kinds" U5
 i6:FA K mg "_law_raised" U7
 i7:FA K mg "_law_reason" U8
 i8:FA K mg "_law_limits" U6
 i9:FA K mg "law" Oz
 XJ:LA K mg "Refused" "Refused.__init__" U0
 XH:LA K mg "BadAct" "BadAct.__init__" Uz
section
variable{P:Program}{w:World}{K:PySem.W.Frag}{mg:Str→Option Value}{base:Heap}
theorem UJ(T:Tx K mg):Jx P w K mg base "BadAct":=T.XH.r b2
theorem UL(T:Tx K mg):Jx P w K mg base "Refused":=T.XJ.r b2
theorem V9(T:Tx K mg):Cv P w K mg base 1 "_law_cell" JF:=
 T.i0.cl (N:=Vk) (np:=2) (b:=Mf) b2 fun fa cdv A outer s H E hr tk hp nd=>
  (BR (CW (Cj aR (Ah 1) (bG Wb (by rfl) T.h_ (by decide+kernel) (Ai (Ah 0) Ba)) (nomark _)) (BK (CQ (DQ (Ah 0) (Ah 1) (fun _ _=>rfl)))) CZ)
   (BK (CQ Ax)))
theorem WM(T:Tx K mg):Cv P w K mg base 1 "_law_stream" IK:=
 T.i1.cl (N:=Vr) (np:=1) (b:=Ml) b1 fun fa cdv A outer s H E hr tk hp nd=>
  (BR (CW (Cj aP (Ah 0) (CP Tc Ax Ax) (nomark _)) (BK (CQ (Ed (Ai (Ah 0) (Ai Ax Ba))))) CZ)
   (BK (CQ (Ed (Ai Ax (Ai (Ah 0) Ba))))))
theorem J5(T:Tx K mg):Cv P w K mg base 1 "_law_take" FT:=
 T.i2.cl (N:=Vs) (np:=2) (b:=Mq) b2 fun fa cdv A outer s H E hr tk hp nd=>
  (BR (CW (Cj aQ (DQ (Ah 0) Ax (fun _ _=>rfl)) Ax (nomark _)) (BR (Cu (i:=2) (CP N_ (Kw Mx (by rfl) T.Lp (by decide+kernel) (Ai (DQ (Ah 0) Ax (fun _ _=>rfl)) Ba)) (Ah 1)) nd rfl (Or.inl rfl))
   (BR (T9 (CP N8 (DQ (Ah 0) Ax (fun _ _=>rfl)) (Ah 1)) (Ah 0) Ax)
   (BK (CQ (Ah 2))))) CZ)
   (BR (T9 (CP N_ (Kw Mx (by rfl) T.Lp (by decide+kernel) (Ai (CP Gv (CP TY (DQ (Ah 0) Ax (fun _ _=>rfl)) Ax) Ax) Ba)) Ax) (Ah 0) Ax)
   (BK (CQ (CP N_ (Kw Mx (by rfl) T.Lp (by decide+kernel) (Ai (CP Gv (CP N8 (CP TY (DQ (Ah 0) Ax (fun _ _=>rfl)) (DQ (Ah 0) Ax (fun _ _=>rfl))) Ax) (CP N8 (DQ (Ah 0) Ax (fun _ _=>rfl)) Ax)) Ba)) (Ah 1))))))
theorem V_(T:Tx K mg):Cv P w K mg base 1 "_law_char" JG:=
 T.i3.cl (N:=Vm) (np:=1) (b:=Mg) b1 fun fa cdv A outer s H E hr tk hp nd=>
  (BR (Cu (i:=1) (Ef (x:=" !\"#$&'()*+,-./0123456789:;<=>?@ABCDEFGHIJKLMNOPQRSTUVWXYZ[\\]^_`")) nd rfl (Or.inl rfl))
   (BR (Cu (i:=1) (CP Gv (Ah 1) (Ef (x:="abcdefghijklmnopqrstuvwxyz{|}~"))) nd rfl (Or.inl rfl))
   (BK (CQ (DQ (Ah 1) (Ah 0) (fun _ _=>rfl))))))
theorem WQ(T:Tx K mg):Cv P w K mg base 2 "_law_string" KY:=
 T.i4.cl (N:=Qc) (np:=2) (b:=Mp) b2 fun fa cdv A outer s H E hr tk hp nd=>
  (BR (Cu (i:=2) (E_ (J5 T) (Ce hr) tk (by rfl) (Ai (Ah 0) (Ai (CP Gv (Ah 1) Ax) Ba))) nd rfl (Or.inl rfl))
   (BK (CQ (bK (Ef (x:="")) (T8 (t:=(.nm 3)) (own:=[("_law_k",3)]) (by decide) rfl nd (Kz (by rfl) T.Lq (Ai (Ah 2) Ba)) (blkOk_by (own:=[("_law_k",3)]) (N:=Qc) (sc:=defScope Ox) (by decide+kernel)) (fun _ _ _ _ _=>(pg_name (i:=3) nd rfl (Or.inl rfl))) (fun _ _ _ _ _=>UG) (fun _ _ _ _ _=>(E_ (V_ T) (Ce hr) takes0 (by rfl) (Ai (E_ (J5 T) (Ce hr) takes0 (by rfl) (Ai (Ah 0) (Ai Ax Ba))) Ba))))))))
theorem gW(T:Tx K mg):Ls P w K mg base 1 "_law_kinds" H_:=
 T.i5.xl (N:=Vn) (np:=1) (b:=Mh) b1 fun fa cdv A outer s H E a oe x0 C0 d0 G4 hr nd=>
  (BR (Cu (i:=1) (Ed (Ai (Gx T.Y7 G4 List.mem_cons_self (Ah 0) (by rfl) T.DW (by rfl) T.YF) (Ai (Gx T.Y4 G4 List.mem_cons_self (Ah 0) (by rfl) T.DW (by rfl) T.YB) (Ai (Gx T.Y5 G4 List.mem_cons_self (Ah 0) (by rfl) T.DW (by rfl) T.YC) (Ai (Gx T.Y6 G4 List.mem_cons_self (Ah 0) (by rfl) T.DW (by rfl) T.YD) Ba))))) nd rfl (Or.inl rfl))
   (BR (Cu (i:=1) (CP Gv (Ah 1) (Ed (Ai (Gx T.Y9 G4 List.mem_cons_self (Ah 0) (by rfl) T.DW (by rfl) T.YJ) (Ai (Gx T.Y8 G4 List.mem_cons_self (Ah 0) (by rfl) T.DW (by rfl) T.YH) (Ai (Gx T.Y_ G4 List.mem_cons_self (Ah 0) (by rfl) T.DW (by rfl) T.RX) (Ai (Gx T.Y0 G4 List.mem_cons_self (Ah 0) (by rfl) T.DW (by rfl) T.RW) Ba)))))) nd rfl (Or.inl rfl))
   (BK (CQ (Ah 1)))))
theorem O7(x:XO)(p p2:Addr×Addr)(z:Option D)(h:LH):H_ x p [Ac p z] h=H_ x p2 [Ac p2 z] h:=
 V8 (A:=fun p=>(Bw (Ab (Bg x p (Gn x.cls) (Aa 0)) (Ab (Bg x p (Gj x.cls) (Aa 0)) (Ab (Bg x p (Gk x.cls) (Aa 0)) (Ab (Bg x p (Gm x.cls) (Aa 0)) Ag)))))) (B:=fun p=>(Bw (Ab (Bg x p (Gq x.cls) (Aa 0)) (Ab (Bg x p (Gp x.cls) (Aa 0)) (Ab (Bg x p (Fl x.cls) (Aa 0)) (Ab (Bg x p (Fj x.cls) (Aa 0)) Ag)))))) (by repeat' (first|exact Jm|exact Jr|exact Jp|apply Jq|apply Jo)) (by repeat' (first|exact Jm|exact Jr|exact Jp|apply Jq|apply Jo)) p p2 z h
theorem WK(T:Tx K mg):Cv P w K mg base 3 "_law_raised" JH:=
 T.i6.cl (N:=Vp) (np:=2) (b:=Mj) b2 fun fa cdv A outer s H E hr tk hp nd=>
  (BK (T_ rfl rfl tk (fun W1 ao gY tk1 hp1=>(BR (CW (Cj (Ey hr.units) (Ah 1) Ax (nomark _)) (BK (HW rfl tk1 T.gK.choose_spec (by rfl))) CZ)
   (BR (CW (Cj (Ey hr.units) (Ah 1) Ax (nomark _)) (BK (HW rfl tk1 T.gG.choose_spec (by rfl))) CZ)
   (BR (CW (Cj (Ey hr.units) (Ah 1) Ax (nomark _)) (BK (HW rfl tk1 T.gH.choose_spec (by rfl))) CZ)
   (BR (CW (Cj (Ey hr.units) (Ah 1) Ax (nomark _)) (BK (HW rfl tk1 T.gJ.choose_spec (by rfl))) CZ)
   (BR (CW (Cj (Ey hr.units) (Ah 1) Ax (nomark _)) (BK (HW rfl tk1 T.gU.choose_spec (by rfl))) CZ)
   (BR (CW (Cj (Ey hr.units) (Ah 1) Ax (nomark _)) (BK (HW rfl tk1 T.gQ.choose_spec (by rfl))) CZ)
   (BR (CW (Cj (Ey hr.units) (Ah 1) Ax (nomark _)) (BK (K6 rfl tk1 (UL T) (Ce hr) (by rfl) (Ah 0))) CZ)
   (BR (CW (Cj (Ey hr.units) (Ah 1) Ax (nomark _)) (BK (K6 rfl tk1 (UJ T) (Ce hr) (by rfl) (Ah 0))) CZ)
   (BK (HW rfl tk1 T.gM.choose_spec (by rfl)))))))))))) (Cz.nm (i:=2) nd rfl rfl T.YG.choose_spec (by rfl) T.Z0 (fun a2 aK pn2 x2 C2 d2 Jk=>(BK (CQ (CP Gv (bH (gW T) Jk List.mem_cons_self (L2H.roomH_mark (Ce hr) _) (pA takes0) (by rfl) (Ai (Ah 2) Ba)) (Ed (Ai (T7 T.ZF Jk List.mem_cons_self (Ah 2) (by rfl) T.DW (by rfl) T.g8 (by decide+kernel)) (Ai (T7 T.ZD Jk List.mem_cons_self (Ah 2) (by rfl) T.DW (by rfl) T.gq (by decide+kernel)) Ba))))))) (by intro x;repeat' (first|exact O_ (O7 x)|exact Jm|exact Jr|exact Ph|exact Jp|exact PB|exact QL (by decide)|exact Pr|exact Pu|apply Pq|apply PN|apply Py (by decide)|apply Pa|apply Px|apply O8|apply Pn|apply Pj|apply Pk|apply QK|apply Jo|apply O9|apply Pg|apply QH|apply Jq|apply QG|apply QF|apply QC|apply P_|apply QD|apply Pb)) Cz.nil)))
theorem WL(T:Tx K mg):Cv P w K mg base 3 "_law_reason" KR:=
 T.i7.cl (N:=Vq) (np:=2) (b:=Qs) b2 fun fa cdv A outer s H E hr tk hp nd=>
  (BK (T_ rfl rfl tk (fun W1 ao gY tk1 hp1=>(BR (CW (Il (Ah 1)) (BK (K6 rfl tk1 (UJ T) (Ce hr) (by rfl) (Ah 0))) CZ)
   (BK (K6 rfl tk1 (UL T) (Ce hr) (by rfl) (Ah 0))))) (Cz.nm (i:=2) nd rfl rfl T.RX.choose_spec (by rfl) T.Z4 (fun a3 oe3 lA x3 C3 d3 eZ=>(BK (CQ (Tz T.Vf eZ (Ah 2))))) (by intro x;repeat' (first|exact O_ (O7 x)|exact Jm|exact Jr|exact Ph|exact Jp|exact PB|exact QL (by decide)|exact Pr|exact Pu|apply Pq|apply PN|apply Py (by decide)|apply Pa|apply Px|apply O8|apply Pn|apply Pj|apply Pk|apply QK|apply Jo|apply O9|apply Pg|apply QH|apply Jq|apply QG|apply QF|apply QC|apply P_|apply QD|apply Pb)) (Cz.nm (i:=2) nd rfl rfl T.RW.choose_spec (by rfl) T.Zz (fun a2 aK pn2 x2 C2 d2 Jk=>(BK (CQ (Tz T.Vf Jk (Ah 2))))) (by intro x;repeat' (first|exact O_ (O7 x)|exact Jm|exact Jr|exact Ph|exact Jp|exact PB|exact QL (by decide)|exact Pr|exact Pu|apply Pq|apply PN|apply Py (by decide)|apply Pa|apply Px|apply O8|apply Pn|apply Pj|apply Pk|apply QK|apply Jo|apply O9|apply Pg|apply QH|apply Jq|apply QG|apply QF|apply QC|apply P_|apply QD|apply Pb)) Cz.nil))))
theorem WD(T:Tx K mg):Cv P w K mg base 1 "_law_limits" KQ:=
 T.i8.cl (N:=Vo) (np:=0) (b:=Mi) b0 fun fa cdv A outer s H E hr tk hp nd=>
  (BR (Cu (i:=0) (Ed (Ai (Dy (by rfl) T.X4) (Ai (Dy (by rfl) T.Xx) (Ai (Dy (by rfl) T.Xw) (Ai (Dy (by rfl) T.X8) (Ai (Dy (by rfl) T.Xz) (Ai (Dy (by rfl) T.X6) (Ai (Dy (by rfl) T.Xy) Ba)))))))) nd rfl (Or.inl rfl))
   (BR (Cu (i:=0) (CP Gv (Ah 0) (Ed (Ai (Dy (by rfl) T.Xv) (Ai (Dy (by rfl) T.X7) (Ai (Dy (by rfl) T.X3) (Ai (Dy (by rfl) T.X_) (Ai (Dy (by rfl) T.X5) Ba))))))) nd rfl (Or.inl rfl))
   (BR (Cu (i:=1) (Ed (Ai (CP Tc Ax Ax) (Ai Ax (Ai Ax (Ai Ax (Ai Ax (Ai Ax (Ai Ax (Ai Ax (Ai Ax (Ai Ax (Ai Ax (Ai Ax Ba))))))))))))) nd rfl (Or.inl rfl))
   (BR (OJ (t:=(.nm 2)) hp rfl (Kz (by rfl) T.Lq (Ai Ax Ba)) (pg_name (i:=2) nd rfl (Or.inl rfl)) (BK (CW (Oc (Je (K7 (Il (Ky .int (by decide) (DQ (Ah 0) (Ah 2) (fun _ _=>rfl)) (by rfl) T.DW (by rfl) T.Lp (by decide+kernel)))) (Je (Il (Ky .bool (by decide) (DQ (Ah 0) (Ah 2) (fun _ _=>rfl)) (by rfl) T.DW (by rfl) T.g_ (by decide+kernel))) (Od (Cj (Ku hr.units) (DQ (Ah 0) (Ah 2) (fun _ _=>rfl)) (DQ (Ah 1) (Ah 2) (fun _ _=>rfl)) (nomark _)))))) (BK (CQ Ez)) CZ)))
   (BK (CQ Ez))))))
theorem Za{fa:Addr}(T:Tx K mg)(hfa:mg "law"=some (.ref fa)):∃fd:FuncData,(∀(s:Shared) (v:Value),BindsTo s fd ⟨[v],[]⟩ [("_law_script",v)])∧∀base:Heap,K.In base→base.Ns mainGlobals mg→FnOk P w K mg base (L2.CX P w) 4 fa fd ["_law_script"] (Ck K mg RM):=
 T.i9.law hfa (N:=Qe) (b:=Mr) b1 fun base fa cdv A outer s H E hr tk hp nd=>
  (BR (Cu (i:=1) (E_ (WM T) (Ce hr) tk (by rfl) (Ai (E_ (V9 T) (Ce hr) tk (by rfl) (Ai (Ah 0) (Ai Ax Ba))) Ba)) nd rfl (Or.inl rfl))
   (BR (Cu (i:=2) (Ed (Ai (Ef (x:="form")) (Ai (Ef (x:="seals")) (Ai (Ef (x:="version")) (Ai (Ef (x:="length")) (Ai (Ef (x:="digest")) (Ai (Ef (x:="role")) (Ai (Ef (x:="expired")) (Ai (Ef (x:="missing")) Ba))))))))) nd rfl (Or.inl rfl))
   (BR (CW (Oc (Je (K7 (Il (Ky .tuple (by decide) (T6 (by rfl) T.RQ) (by rfl) T.DW (by rfl) T.iH (by decide+kernel)))) (Je (Cj (Ku hr.units) (Kw Wc (by rfl) T.iD (by decide+kernel) (Ai (T6 (by rfl) T.RQ) Ba)) (Ah 2) (nomark _)) (Od (K7 (Il (bF (WD T) (Ce hr) (by rfl)))))))) (BK (CQ Ez)) CZ)
   (BR (Cu (i:=3) (E_ (WQ T) (Ce hr) tk (by rfl) (Ai (Ah 1) (Ai Ax Ba))) nd rfl (Or.inl rfl))
   (BR (CW (Cj (Ey hr.units) (E_ (J5 T) (Ce hr) tk (by rfl) (Ai (Ah 1) (Ai Ax Ba))) Ax (nomark _)) (BK (Cu (i:=3) (DQ (Ah 2) (E_ (J5 T) (Ce hr) tk (by rfl) (Ai (Ah 1) (Ai Ax Ba))) (fun _ _=>rfl)) nd rfl (Or.inl rfl))) CZ)
   (BR (OJ (t:=(.nm 4)) hp rfl (Kz (by rfl) T.Lq (Ai Ax Ba)) (pg_name (i:=4) nd rfl (Or.inr rfl)) (BR (Cu (i:=5) (CP Gv (T8 (t:=(.nm 8)) (own:=[("_law_m",8)]) (by decide) rfl nd (Kz (by rfl) T.Lq (Ai Ax Ba)) (blkOk_by (own:=[("_law_m",8)]) (N:=Qe) (sc:=defScope Oz) (by decide+kernel)) (fun _ _ _ _ _=>(pg_name (i:=8) nd rfl (Or.inl rfl))) (fun _ _ _ _ _=>UG) (fun _ _ _ _ _=>(bJ (Ey hr.units) (Ah 8) (Ah 4) (nomark _)))) (Ed (Ai Ez (Ai Ez Ba)))) nd rfl (Or.inl rfl))
   (BK (CW (Cj (Ku hr.units) (E_ (WK T) (Ce hr) tk (by rfl) (Ai (Ah 3) (Ai (Ah 4) Ba))) (Ah 5) (nomark _)) (BK (CQ Ez)) CZ))))
   (BR (OJ (t:=(.nm 6)) hp rfl (bL (Ed (Ai Ez (Ai Ez Ba)))) (pg_name (i:=6) nd rfl (Or.inl rfl)) (BR (Cu (i:=7) (E_ (WL T) (Ce hr) tk (by rfl) (Ai (Ah 3) (Ai (Ah 6) Ba))) nd rfl (Or.inl rfl))
   (BK (CW (Oc (Je (K7 (Il (Ky .str (by decide) (Ah 7) (by rfl) T.DW (by rfl) T.iG (by decide+kernel)))) (Od (Cj (Ku hr.units) (Ah 7) (Ah 3) (nomark _))))) (BK (CQ Ez)) CZ))))
   (BK (CQ Ez)))))))))
end
end G
namespace HM
open PySem L2
section
variable{α β:Type}{e:EN}{h h1:LH}{d:D}
@[simp] theorem V7{a:α}{f:α→LH→Res β}:(Res.ok a h).bind f=f a h:=rfl
@[simp] theorem ig{f:α→LH→Res β}:(Res.bad:Res α).bind f=.bad:=rfl
@[simp] theorem iw{x:XO}{f:α→LH→Res β}:(Res.exc x h:Res α).bind f=.exc x h:=rfl
@[simp] theorem bf{a:α}{f:α→LH→B_}:Ay (Res.ok a h) e f=f a h:=rfl
@[simp] theorem lC{f:α→LH→B_}:Ay (Res.bad:Res α) e f=.bad:=rfl
@[simp] theorem lD{x:XO}{f:α→LH→B_}:Ay (Res.exc x h:Res α) e f=.exc x e h:=rfl
@[simp] theorem ev_var{i:Nat}:Aa i e h=match e[i]? with|some (some d)=>.ok d h|_=>.bad:=rfl
@[simp] theorem ev_c:mC d e h=.ok d h:=rfl
@[simp] theorem ev_op{f:D→D→LH→Res D}{a b:M D}:Af f a b e h=(a e h).bind fun x h1=>(b e h1).bind fun y h2=>f x y h2:=rfl
@[simp] theorem ev_un{f:D→LH→Res D}{a:M D}:Du f a e h=(a e h).bind fun x h1=>f x h1:=rfl
@[simp] theorem jU:Ag e h=.ok [] h:=rfl
@[simp] theorem jF{a:M D}{r:M (List D)}:Ab a r e h=(a e h).bind fun x h1=>(r e h1).bind fun xs h2=>.ok (x::xs) h2:=rfl
@[simp] theorem i_{f:MF}{a:M (List D)}:Am f a e h=(a e h).bind fun xs h1=>f xs h1:=rfl
@[simp] theorem jA{f:MF}:Km f e h=match f [] h with| .ok d h1=>.ok d h1| .exc _ _=>.bad| .bad=>.bad:=rfl
@[simp] theorem ju{a:M D}:Bc a e h=(a e h).bind fun x h1=>match x with| .bl b=>.ok b h1|_=>.bad:=rfl
@[simp] theorem jk{a b:M Bool}:JZ a b e h=(a e h).bind fun x h1=>if x then b e h1 else .ok false h1:=rfl
@[simp] theorem jr{a b:M Bool}:CN a b e h=(a e h).bind fun x h1=>if x then .ok true h1 else b e h1:=rfl
@[simp] theorem jo{a:M Bool}:Bs a e h=(a e h).bind fun x h1=>.ok (!x) h1:=rfl
@[simp] theorem jt{a:M D}:Bh a e h=(a e h).bind fun d h1=>match Br d h1 with|some b=>.ok b h1|none=>.bad:=rfl
def Rw(x:D)(b:M D)(e:EN)(h:LH):Res D:=match x with
 | .bl true=>b e h
 | .bl false=>.ok (.bl false) h
 |_=>.bad
def kOr(x:D)(b:M D)(e:EN)(h:LH):Res D:=match x with
 | .bl true=>.ok (.bl true) h
 | .bl false=>b e h
 |_=>.bad
@[simp] theorem iy{a b:M D}:Fe a b e h=(a e h).bind fun x h1=>Rw x b e h1:=rfl
@[simp] theorem jX{a b:M D}:JX a b e h=(a e h).bind fun x h1=>kOr x b e h1:=rfl
@[simp] theorem j6{b:M D}{t:Bool}:Rw (.bl t) b e h=if t then b e h else .ok (.bl false) h:=by cases t<;>rfl
@[simp] theorem j8{b:M D}{t:Bool}:kOr (.bl t) b e h=if t then .ok (.bl true) h else b e h:=by cases t<;>rfl
@[simp] theorem jW{a:M D}:Ih a e h=(a e h).bind fun x h1=>match x with| .bl b=>.ok (.bl (!b)) h1|_=>.bad:=rfl
@[simp] theorem jM{c:M Bool}{a b:M D}:Zv c a b e h=(c e h).bind fun x h1=>if x then a e h1 else b e h1:=rfl
def Rx(z:D)(c:M D)(g:D→D→LH→Res D)(y:D)(e:EN)(h:LH):Res D:=match z with
 | .bl true=>(c e h).bind fun w h4=>g y w h4
 | .bl false=>.ok (.bl false) h
 |_=>.bad
@[simp] theorem jD{f g:D→D→LH→Res D}{a b c:M D}:Zq f g a b c e h=(a e h).bind fun x h1=>(b e h1).bind fun y h2=>(f x y h2).bind fun z h3=>Rx z c g y e h3:=rfl
@[simp] theorem j7{c:M D}{g:D→D→LH→Res D}{y:D}{t:Bool}:Rx (.bl t) c g y e h=if t then (c e h).bind fun w h4=>g y w h4 else .ok (.bl false) h:=by cases t<;>rfl
@[simp] theorem jw{a:M (List D)}:Ja a e h=(a e h).bind fun xs h1=>if xs.length≤16777216 then .ok (.tup xs) h1 else .bad:=rfl
@[simp] theorem jP{a:M (List D)}:Bw a e h=(a e h).bind fun xs h1=>if xs.length≤16777216 then .ok (.ref h1.length) (h1++[.lst xs]) else .bad:=rfl
@[simp] theorem jN{b:BT}{a:M D}:Bq b a e h=(a e h).bind fun d h1=>match BX d h1 with|some t=>.ok (.bl (isB t b)) h1|Option.none=>.bad:=rfl
@[simp] theorem jV:R9 e h=.ok none h:=rfl
@[simp] theorem jY{a:M D}:Zx a e h=(a e h).bind fun d h1=>match d with| .int i=>.ok (some i) h1|_=>.bad:=rfl
@[simp] theorem ji{a:M D}{lo hi:M (Option Int)}:Zy a lo hi e h=(a e h).bind fun d h1=>(lo e h1).bind fun l h2=>(hi e h2).bind fun u h3=>Q5 d l u h3:=rfl
@[simp] theorem jR{ck:D→LH→Bool}{f:MM}{o:M D}{a:M (List D)}:Nz ck f o a e h=(o e h).bind fun x h1=>if ck x h1 then (a e h1).bind fun xs h2=>f x xs h2 else .bad:=rfl
theorem Bf{a b:MS}:Ak a b e h=match a e h with
 | .next e1 h1=>b e1 h1
 | .ret d h1=>.ret d h1
 | .brk e1 h1=>.brk e1 h1
 | .cnt e1 h1=>.cnt e1 h1
 | .exc x e1 h1=>.exc x e1 h1
 | .bad=>.bad:=rfl
@[simp] theorem jj:BW e h=.next e h:=rfl
@[simp] theorem ev_if{c:M Bool}{a b:MS}:BJ c a b e h=Ay (c e h) e fun x h1=>if x then a e h1 else b e h1:=rfl
@[simp] theorem Xg{i:Nat}{a:M D}:BL i a e h=Ay (a e h) e fun x h1=>.next (e.set i (some x)) h1:=rfl
@[simp] theorem je{a:M D}:Aq a e h=Ay (a e h) e fun x h1=>.ret x h1:=rfl
@[simp] theorem jf:Uh e h=.ret .non h:=rfl
@[simp] theorem jK{a:M D}:HX a e h=Ay (a e h) e fun _ h1=>.next e h1:=rfl
@[simp] theorem jC:cA e h=.brk e h:=rfl
@[simp] theorem jE:cC e h=.cnt e h:=rfl
@[simp] theorem jh{o i a:M D}:Jf o i a e h=Ay (a e h) e fun v h1=>Ay (o e h1) e fun x h2=>Ay (i e h2) e fun y h3=>match Jh x y v h3 with|some h4=>.next e h4|none=>.bad:=rfl
@[simp] theorem jg{is:List Nat}{a:M D}:cI is a e h=Ay (a e h) e fun v h1=>match Fx (.tp is) v e with|some e1=>.next e1 h1|none=>.bad:=rfl
@[simp] theorem jB{f:D→D→LH→Res D}{i:Nat}{a:M D}:b_ f i a e h=match e[i]? with
 |some (some x)=>Ay (a e h) e fun y h1=>Ay (f x y h1) e fun z h2=>.next (e.set i (some z)) h2
 |_=>.bad:=rfl
@[simp] theorem NK{it:M (IT×Nat)}{t:TN}{b:MS}:Fv it t b e h=Ay (it e h) e fun g h1=>Dt g.1 t b g.2 0 e h1:=rfl
@[simp] theorem jy{c:M Bool}{b:MS}{n:Nat}:cJ n c b e h=Kl c b n e h:=rfl
@[simp] theorem iz{a:M D}:Nh a e h=(a e h).bind fun d h1=>match d with
 | .tup xs=>.ok (itL xs,xs.length) h1
 | .Ar ns=>.ok (itL (ns.map D.int),ns.length) h1
 | .str s=>.ok (itL (s.map fun c=>D.str [c]),s.length) h1
 | .ref i=>match h1[i]? with
  |some (.lst xs)=>.ok (HJ i,xs.length) h1
  |_=>.bad
 |_=>.bad:=rfl
@[simp] theorem jO{it:M (IT×Nat)}{t:TN}{c:M Bool}{y:M D}{vs:List Nat}:Ig it t c y vs e h=(it e h).bind fun g h1=>Eu g.1 t c y (Cd e vs) h1.length g.2 0 (h1++[.lst []]):=rfl
end
theorem M4{a b:Int}{h:LH}:Bb (.int a) (.int b) h=.ok (.int (a+b)) h:=rfl
theorem Wv{a b:Int}{h:LH}:KH (.int a) (.int b) h=.ok (.bl (decide (a<b))) h:=rfl
theorem Qw{a b:Int}{h:LH}:J_ (.int a) (.int b) h=.ok (.bl (decide (b<a))) h:=rfl
theorem Wk{a b:Int}{h:LH}:J9 (.int a) (.int b) h=.ok (.bl (decide (b≤a))) h:=rfl
theorem Wj{a b:Int}{h:LH}:Bm (.int a) (.int b) h=.ok (.bl (decide (a=b))) h:=rfl
theorem M8{a b:Int}{h:LH}:CT (.int a) (.int b) h=.ok (.bl (!decide (a=b))) h:=rfl
theorem Qv{a b:List Nat}{h:LH}:Bm (.str a) (.str b) h=.ok (.bl (decide (a=b))) h:=rfl
theorem Ww{a b:List Nat}{h:LH}:CT (.str a) (.str b) h=.ok (.bl (!decide (a=b))) h:=rfl
theorem M7{a b:Int}{h:LH}(hb:0<b):Hu (.int a) (.int b) h=.ok (.int (a%b)) h:=by
 show (if 0<b then _ else _)=_
 rw [if_pos hb]
theorem M5{a b:Int}{h:LH}(hb:0<b)(hl:b.natAbs.log2<9000):Hq (.int a) (.int b) h=.ok (.int (a/b)) h:=by
 show (if 0<b∧b.natAbs.log2<9000 then _ else _)=_
 rw [if_pos ⟨hb,hl⟩]
theorem Qz{a b:Int}{h:LH}(hb:Ik a b=true):G8 (.int a) (.int b) h=.ok (.int (a*b)) h:=by
 show (if Ik a b=true then _ else _)=_
 rw [if_pos hb]
theorem S7{a b:Int}(h:b.natAbs<2 ^ 63):Ik a b=true:=by
 unfold Ik
 rw [decide_eq_true h]
 rfl
theorem Vu(s:String):S s=.str (s.toList.map Char.toNat):=by
 unfold S
 have:=TL.tl_ofString s
 unfold TL.tl at this
 rw [this]
end HM
namespace HM
open PySem L2
theorem Hf{R:B_→Prop}{a b:MS}{e e1:EN}{h h1:LH}(x:a e h=.next e1 h1)(k:R (b e1 h1)):R (Ak a b e h):=by
 rw [Bf,x]
 exact k
theorem Z5{np nn:Nat}{m:MS}{ds:List D}{h h1:LH}{d:D}(hl:ds.length=np)(k:m (ds.map some++List.replicate (nn-np) none) h=.ret d h1):A_ np nn m ds h=.ok d h1:=by
 unfold A_
 rw [if_pos hl,k]
def Vt(r:B_):Prop:=∃h,r=.ret (.bl true) h
theorem Zb{nn:Nat}{m:MS}(H:∀ns:List Int,ns.length≤63→(∀z∈ns,Builtin.Int.intBits z≤1048576)→Vt (m (some (.Ar ns)::List.replicate (nn-1) none) [])):Jv (A_ 1 nn m):=by
 intro ns hn hb
 obtain ⟨h,e⟩:=H ns hn hb
 exact ⟨h,Z5 (by rfl) e⟩
end HM
namespace HM
open PySem L2
theorem Eb{np nn:Nat}{m:MS}{ds:List D}{h:LH}(hl:ds.length=np):A_ np nn m ds h=match m (ds.map some++List.replicate (nn-np) none) h with
 | .next _ h=>.ok .non h
 | .ret d h=>.ok d h
 | .exc x _ h=>.exc x h
 | .brk _ _=>.bad
 | .cnt _ _=>.bad
 | .bad=>.bad:=by
 unfold A_
 first
  |(rw [if_pos hl];done)
  |(rw [if_pos hl]
    cases m (ds.map some++List.replicate (nn-np) none) h<;>rfl)
theorem Ho{α:Type}{xs:List α}{i:Int}{x:α}(h0:0≤i)(h:xs[i.toNat]? =some x):atI xs i=some x:=by
 have e:((i.toNat:Nat):Int)=i:=Int.toNat_of_nonneg h0
 rw [←e]
 exact atI_nat h
theorem G7{h:LH}{r:Nat}{xs:List D}{i:Int}{x:D}(hr:h[r]? =some (.lst xs))(hx:atI xs i=some x):BP (.ref r) (.int i) h=.ok x h:=by
 show (match Eh (.ref r) h with
  |some xs=>(match atI xs i with
   |some x=>Res.ok x h
   |none=>.bad)
  |none=>.bad)=_
 have e:Eh (.ref r) h=some xs:=by
  show (match h[r]? with
   |some (.lst xs)=>some xs
   |_=>none)=_
  rw [hr]
 rw [e]
 simp only [hx]
theorem Qx{h:LH}{xs:List D}{i:Int}{x:D}(hx:atI xs i=some x):BP (.tup xs) (.int i) h=.ok x h:=by
 show (match atI xs i with
   |some x=>Res.ok x h
   |none=>.bad)=_
 simp only [hx]
theorem Wq{h:LH}{xs:List Int}{i:Int}{x:Int}(h0:0≤i)(hx:xs[i.toNat]? =some x):BP (.Ar xs) (.int i) h=.ok (.int x) h:=by
 show (match atI (xs.map D.int) i with
   |some x=>Res.ok x h
   |none=>.bad)=_
 rw [Ho h0 (x:=D.int x) (by rw [List.getElem?_map,hx];rfl)]
theorem Ws{h:LH}{s:List Nat}{i:Int}{c:Nat}(hl:s.length≤16777216)(hx:atI s i=some c):BP (.str s) (.int i) h=.ok (.str [c]) h:=by
 show (if s.length≤16777216 then (match atI s i with
  |some c=>Res.ok (D.str [c]) h
  |none=>.bad) else .bad)=_
 rw [if_pos hl,hx]
theorem Ux{h:LH}{r:Nat}{xs:List D}{k:Int}{j:Nat}{v:D}(hr:h[r]? =some (.lst xs))(hj:ixN xs.length k=some j):Jh (.ref r) (.int k) v h=some (h.set r (.lst (xs.set j v))):=by
 show (match h[r]? with
  |some (.lst xs)=>match ixN xs.length k with
   |some j=>some (h.set r (.lst (xs.set j v)))
   |none=>none
  |_=>none)=_
 rw [hr]
 simp only [hj]
theorem Wu{h:LH}{s:List Int}:Bu [.Ar s] h=.ok (.int s.length) h:=rfl
theorem Qy{h:LH}{s:List D}:Bu [.tup s] h=.ok (.int s.length) h:=rfl
theorem M6{h:LH}{i:Int}:Ht [.int i] h=.ok (.int i) h:=rfl
theorem Wi{a b:List Nat}{h:LH}(hl:a.length+b.length≤16777216):Bb (.str a) (.str b) h=.ok (.str (a++b)) h:=by
 show (if a.length+b.length≤16777216 then Res.ok (D.str (a++b)) h else .bad)=_
 rw [if_pos hl]
def Ip(a b m:Int):Int:=if a>0 then a%m else
 let c:=(b*48271+69621)%2147483647
 (c*c/1009+c/7)%m
def O4(a m:Int):Int:=if a>0 then a/m else a
def tkB(a b:Int):Int:=if a>0 then b else (b*48271+69621)%2147483647
theorem cell_eq{ns:List Int}{k:Int}{h:LH}(h0:0≤k):L.JF [.Ar ns,.int k] h=.ok (.int (ns.getD k.toNat 0)) h:=by
 unfold L.JF
 rw [Eb (by rfl)]
 unfold L.Mf
 simp [Bf,Wu,Wv]
 by_cases c:k<ns.length
 ·have hk:k.toNat<ns.length:=by omega
  have e:ns[k.toNat]? =some (ns.getD k.toNat 0):=by
   rw [List.getD_eq_getElem?_getD,List.getElem?_eq_getElem hk];rfl
  simp [c,Wq h0 e]
 ·have e:ns.getD k.toNat 0=0:=by
   rw [List.getD_eq_getElem?_getD,List.getElem?_eq_none (by omega)];rfl
  rw [List.getD_eq_getElem?_getD] at e
  simp [c,e]
theorem eV{n:Int}{h:LH}:L.IK [.int n] h=.ok (.ref h.length) (h++[.lst (if n≥1000000000000000000 then [.int n,.int 1] else [.int 0,.int n])]):=by
 unfold L.IK
 rw [Eb (by rfl)]
 unfold L.Ml
 have e:Hv (.int 10) (.int 18) h=.ok (.int 1000000000000000000) h:=by
  show (if (0:Int)≤18∧(18:Int)≤1000000∧Int.natAbs 10<2 ^ 64 then Res.ok (D.int (10 ^ (18:Int).toNat)) h else .bad)=_
  rw [if_pos ⟨by decide,by decide,by decide⟩]
  rfl
 simp [Bf,e,Wk]
 by_cases c:n≥1000000000000000000<;>simp [c]
theorem take_eq{h:LH}{r:Nat}{a b m:Int}(hr:h[r]? =some (.lst [.int a,.int b]))(hm:0<m)(hl:m.natAbs.log2<9000):
  L.FT [.ref r,.int m] h=.ok (.int (Ip a b m)) (h.set r (.lst [.int (O4 a m),.int (tkB a b)])):=by
 have i0:atI [D.int a,D.int b] 0=some (.int a):=rfl
 have i1:atI [D.int a,D.int b] 1=some (.int b):=rfl
 have hlt:r<h.length:=CK hr
 unfold L.FT
 rw [Eb (by rfl)]
 unfold L.Mq
 by_cases c:a>0
 ·simp [Bf,G7 hr i0,Qw,c,M6,M7 hm,M5 hm hl,Ux hr (show ixN [D.int a,D.int b].length 0=some 0 from rfl),Ip,O4,tkB]
 ·have m1:G8 (.int b) (.int 48271) h=.ok (.int (b*48271)) h:=Qz (S7 (by decide))
  have hr2:(h.set r (.lst [.int a,.int ((b*48271+69621)%2147483647)]))[r]? =some (.lst [.int a,.int ((b*48271+69621)%2147483647)]):=List.getElem?_set_self hlt
  have hc0:0≤(b*48271+69621)%2147483647:=Int.emod_nonneg _ (by decide)
  have hc1:(b*48271+69621)%2147483647<2147483647:=Int.emod_lt_of_pos _ (by decide)
  simp [Bf,G7 hr i0,G7 hr i1,Qw,c,M6,m1,M4,M7 (show (0:Int)<2147483647 by decide),Ux hr (show ixN [D.int a,D.int b].length 1=some 1 from rfl)]
  generalize hz:(b*48271+69621)%2147483647=z at*
  have j1:atI [D.int a,D.int z] 1=some (.int z):=rfl
  have m2:∀g,G8 (.int z) (.int z) g=.ok (.int (z*z)) g:=fun g=>Qz (S7 (by omega))
  simp [G7 hr2 j1,m2,M5 (show (0:Int)<1009 by decide) (by decide+kernel),M5 (show (0:Int)<7 by decide) (by decide+kernel),M4,M6,M7 hm,Ip,O4,tkB,c,hz]
theorem VR{a b m:Int}(hm:0<m):0≤Ip a b m∧Ip a b m<m:=by
 unfold Ip
 split
 ·exact ⟨Int.emod_nonneg _ (by omega),Int.emod_lt_of_pos _ hm⟩
 ·exact ⟨Int.emod_nonneg _ (by omega),Int.emod_lt_of_pos _ hm⟩
def Bj(h:LH)(r:Nat):Prop:=∃a b,h[r]? =some (.lst [.int a,.int b])
structure SF(r:Nat)(h h':LH):Prop where
 le:h.length≤h'.length
 keep:∀i,i<h.length→i≠r→h'[i]? =h[i]?
 st:Bj h' r
theorem SF.trans{r:Nat}{h h1 h2:LH}(a:SF r h h1)(b:SF r h1 h2):SF r h h2:=
 ⟨Nat.le_trans a.le b.le,fun i hi hr=>(b.keep i (Nat.lt_of_lt_of_le hi a.le) hr).trans (a.keep i hi hr),b.st⟩
theorem SF.refl{r:Nat}{h:LH}(s:Bj h r):SF r h h:=⟨Nat.le_refl _,fun _ _ _=>rfl,s⟩
theorem SF.push{r:Nat}{h:LH}{o:LO}(s:Bj h r):SF r h (h++[o]):=by
 obtain ⟨a,b,e⟩:=s
 refine ⟨by simp,fun i hi _=>List.getElem?_append_left hi,a,b,?_⟩
 rw [List.getElem?_append_left (CK e)]
 exact e
theorem SF.get{r i:Nat}{h h':LH}{o:LO}(s:SF r h h')(hr:i≠r)(e:h[i]? =some o):h'[i]? =some o:=(s.keep i (CK e) hr).trans e
theorem Lg{h:LH}{r:Nat}{m:Int}(s:Bj h r)(hm:0<m)(hl:m<4611686018427387904):
  ∃v h',L.FT [.ref r,.int m] h=.ok (.int v) h'∧0≤v∧v<m∧SF r h h'∧h'.length=h.length:=by
 obtain ⟨a,b,e⟩:=s
 have YZ:m.natAbs.log2<9000:=Nat.lt_trans (PySem.Flt.log2_lt_of (k:=62) (by decide) (by omega)) (by decide)
 refine ⟨_,_,take_eq e hm YZ,(VR hm).1,(VR hm).2,⟨by simp,fun i hi hr=>by rw [List.getElem?_set_ne (Ne.symm hr)],_,_,List.getElem?_set_self (CK e)⟩,by simp⟩
theorem Kh{g:IT}{t:TN}{body:MS}{N:Nat}(it:Nat→D)(I:Nat→EN→LH→Prop)(R:B_→Prop)
  (hg:∀j e h,j≤N→I j e h→g h j=some (if j<N then some (it j) else none))
  (step:∀j e h,j<N→I j e h→∃e1,Fx t (it j) e=some e1∧match body e1 h with
   | .next e2 h2=>I (j+1) e2 h2
   | .cnt e2 h2=>I (j+1) e2 h2
   | .brk e2 h2=>R (.next e2 h2)
   | .ret x h2=>R (.ret x h2)
   | .exc x e2 h2=>R (.exc x e2 h2)
   | .bad=>False)
  (fin:∀e h,I N e h→R (.next e h)):∀n j e h,j+n=N→I j e h→R (Dt g t body n j e h):=by
 intro n
 induction n with
 |zero=>
  intro j e h hj hi
  have e0:=hg j e h (by omega) hi
  rw [if_neg (by omega)] at e0
  unfold Dt
  rw [e0]
  have:j=N:=by omega
  subst this
  exact fin e h hi
 |succ n ih=>
  intro j e h hj hi
  have e0:=hg j e h (by omega) hi
  rw [if_pos (by omega)] at e0
  obtain ⟨e1,et,hb⟩:=step j e h (by omega) hi
  unfold Dt
  rw [e0]
  simp only [et]
  cases eb:body e1 h with
  |next e2 h2=>rw [eb] at hb;exact ih (j+1) e2 h2 (by omega) hb
  |cnt e2 h2=>rw [eb] at hb;exact ih (j+1) e2 h2 (by omega) hb
  |brk e2 h2=>rw [eb] at hb;exact hb
  |ret x h2=>rw [eb] at hb;exact hb
  |exc x e2 h2=>rw [eb] at hb;exact hb
  |bad=>rw [eb] at hb;exact hb.elim
theorem R7{g:IT}{t:TN}{c:M Bool}{y:M D}{e:EN}{k N:Nat}(it:Nat→D)(I:Nat→List D→LH→Prop)
  (hg:∀j acc h,j≤N→I j acc h→g h j=some (if j<N then some (it j) else none))
  (hk:∀j acc h,j≤N→I j acc h→h[k]? =some (.lst acc))
  (step:∀j acc h,j<N→I j acc h→∃e1,Fx t (it j) e=some e1∧((∃h2,c e1 h=.ok false h2∧I (j+1) acc h2)∨
   ∃h2 x h3 JB,c e1 h=.ok true h2∧y e1 h2=.ok x h3∧h3[k]? =some (.lst JB)∧JB.length<16777216∧I (j+1) (JB++[x]) (h3.set k (.lst (JB++[x]))))):
  ∀n j acc h,j+n=N→I j acc h→∃acc' h',Eu g t c y e k n j h=.ok (.ref k) h'∧I N acc' h':=by
 intro n
 induction n with
 |zero=>
  intro j acc h hj hi
  have e0:=hg j acc h (by omega) hi
  rw [if_neg (by omega)] at e0
  unfold Eu
  rw [e0]
  have:j=N:=by omega
  subst this
  exact ⟨acc,h,rfl,hi⟩
 |succ n ih=>
  intro j acc h hj hi
  have e0:=hg j acc h (by omega) hi
  rw [if_pos (by omega)] at e0
  obtain ⟨e1,et,hb⟩:=step j acc h (by omega) hi
  unfold Eu
  rw [e0]
  simp only [et]
  rcases hb with ⟨h2,ec,hi2⟩|⟨h2,x,h3,JB,ec,ey,ek,hl,hi2⟩
  ·simp only [ec]
   exact ih (j+1) acc h2 (by omega) hi2
  ·simp only [ec,ey,ek,if_pos hl]
   exact ih (j+1) _ _ (by omega) hi2
def Gh(N:Nat):IT:=fun _ j=>some (if j<N then some (.int j) else none)
theorem JD{a:M (List D)}{e:EN}{h:LH}:Dq a e h=(a e h).bind fun d h1=>match d with
 |[.int n]=>if-(2 ^ 62)≤n∧n<2 ^ 62 then .ok (Gh n.toNat,n.toNat) h1 else .bad
 |_=>.bad:=rfl
def LC(c:Nat):Prop:=32≤c∧c≤126∧c≠37
def Et(k:Nat):Nat:=if k<5 then k+32 else k+33
theorem Ze:(Str.ofString " !\"#$&'()*+,-./0123456789:;<=>?@ABCDEFGHIJKLMNOPQRSTUVWXYZ[\\]^_`").cps.toList++(Str.ofString "abcdefghijklmnopqrstuvwxyz{|}~").cps.toList=(List.range 94).map Et:=by decide+kernel
theorem WT{k:Int}{h:LH}(h0:0≤k)(h1:k<94):L.JG [.int k] h=.ok (.str [Et k.toNat]) h:=by
 unfold L.JG
 rw [Eb (by rfl)]
 unfold L.Mg
 have ea:∀g,Bb (S " !\"#$&'()*+,-./0123456789:;<=>?@ABCDEFGHIJKLMNOPQRSTUVWXYZ[\\]^_`") (S "abcdefghijklmnopqrstuvwxyz{|}~") g=.ok (.str ((List.range 94).map Et)) g:=fun g=>by
  have:=Wi (a:=(Str.ofString " !\"#$&'()*+,-./0123456789:;<=>?@ABCDEFGHIJKLMNOPQRSTUVWXYZ[\\]^_`").cps.toList) (b:=(Str.ofString "abcdefghijklmnopqrstuvwxyz{|}~").cps.toList) (h:=g) (by decide+kernel)
  rw [Ze] at this
  exact this
 have ei:atI ((List.range 94).map Et) k=some (Et k.toNat):=Ho h0 (by
  rw [List.getElem?_map,List.getElem?_range (by omega)];rfl)
 simp [Bf,ea,Ws (show ((List.range 94).map Et).length≤16777216 by simp) ei]
theorem Zf{k:Nat}(h:k<94):LC (Et k):=by
 unfold Et LC
 split<;>omega
theorem Yt(l:List (List Nat)):TL.joinL [] l=l.flatten:=by
 induction l with
 |nil=>rfl
 |cons a l ih=>
  cases l with
  |nil=>simp [TL.joinL]
  |cons b l=>simp [TL.joinL] at ih ⊢; exact ih
theorem eY(l:List (List Nat)):G3 (l.map D.str)=some l:=by
 induction l with
 |nil=>rfl
 |cons a l ih=>
  show (G3 (l.map D.str)).map _=_
  rw [ih]
  rfl
theorem Wt{h:LH}{a:List Nat}{r:Nat}{ss:List (List Nat)}(hr:h[r]? =some (.lst (ss.map D.str)))(hl:(ss.map (·.length)).sum+ss.length*a.length≤16777216):Ge (.str a) [.ref r] h=.ok (.str (TL.joinL a ss)) h:=by
 have e:Eh (.ref r) h=some (ss.map D.str):=by
  show (match h[r]? with
   |some (.lst xs)=>some xs
   |_=>none)=_
  rw [hr]
 unfold Ge
 simp only [e,eY,if_pos hl]
theorem Qi:S ""=.str []:=by
 rw [Vu]
 rfl
theorem fD(l:List Nat):((l.map fun c=>[c]).map (fun x:List Nat=>x.length)).sum=l.length:=by
 induction l with
 |nil=>rfl
 |cons a l ih=>
  simp only [List.map_cons,List.sum_cons,List.length_cons,List.length_nil]
  rw [ih]
  omega
theorem Xo(l:List Nat):(l.map fun c=>[c]).flatten=l:=by
 induction l with
 |nil=>rfl
 |cons a l ih=>simp at ih ⊢; exact ih
theorem Yu{h:LH}{r:Nat}{s:List Nat}(hr:h[r]? =some (.lst (s.map fun c=>D.str [c])))(hl:s.length≤16777216):Ge (S "") [.ref r] h=.ok (.str s) h:=by
 have e0:=Qi
 rw [e0]
 have:=Wt (h:=h) (a:=[]) (r:=r) (ss:=s.map fun c=>[c]) (by rw [hr,List.map_map];rfl) (by rw [fD];simpa using hl)
 rw [this,Yt,Xo]
theorem eX{h:LH}{r:Nat}{most:Int}(s:Bj h r)(hm:0≤most)(hl:most≤1000000):
  ∃z h',L.KY [.ref r,.int most] h=.ok (.str z) h'∧(z.length:Int)≤most∧(∀c∈z,LC c)∧SF r h h':=by
 obtain ⟨v,h1,e1,v0,v1,F1,l1⟩:=Lg (m:=most+1) s (by omega) (by omega)
 have hloop:=R7 (g:=Gh v.toNat) (t:=.nm 3) (c:=Ii) (y:=Am L.JG (Ab (Am L.FT (Ab (Aa 0) (Ab (mC (.int 94)) Ag))) Ag)) (e:=[some (.ref r),some (.int most),some (.int v),none]) (k:=h1.length) (N:=v.toNat) (fun j=>.int j)
  (fun j acc g=>SF r h1 g∧g[h1.length]? =some (.lst acc)∧acc.length=j∧∃z:List Nat,acc=z.map (fun c=>D.str [c])∧∀c∈z,LC c)
  (fun j acc g hj hi=>rfl) (fun j acc g hj hi=>hi.2.1) (by
   rintro j acc g hj ⟨F,ek,el,z,rfl,hz⟩
   refine ⟨_,rfl,.inr ?_⟩
   obtain ⟨u,g2,eu,u0,u1,F2,l2⟩:=Lg (m:=94) F.st (by decide) (by decide)
   have hne:h1.length≠r:=by
    obtain ⟨a,b,e⟩:=F1.st
    have:=CK e
    omega
   have ek2:=F2.get hne ek
   refine ⟨g,.str [Et u.toNat],g2,z.map (fun c=>D.str [c]),rfl,?_,ek2,by omega,?_,?_,by simp at el ⊢; exact el,z++[Et u.toNat],by simp,?_⟩
   ·simp [eu,WT u0 u1]
   ·have F3:=F.trans F2
    obtain ⟨a,b,e⟩:=F3.st
    refine ⟨by simpa using F3.le,fun i hi hr=>?_,a,b,?_⟩
    ·rw [List.getElem?_set_ne (by omega)];exact F3.keep i hi hr
    ·rw [List.getElem?_set_ne hne];exact e
   ·rw [List.getElem?_set_self (CK ek2)]
   ·intro c hc
    rcases List.mem_append.mp hc with hc|hc
    ·exact hz c hc
    ·rw [List.mem_singleton.mp hc];exact Zf (by omega)) v.toNat 0 [] (h1++[.lst []]) (by omega) ⟨SF.push F1.st,by simp,rfl,[],rfl,by simp⟩
 obtain ⟨acc,h2,e2,F2,ek,el,z,rfl,hz⟩:=hloop
 have hzl:z.length=v.toNat:=by simpa using el
 refine ⟨z,h2,?_,by omega,hz,F1.trans F2⟩
 unfold L.KY
 rw [Eb (by rfl)]
 unfold L.Mp
 have e0:=Qi
 have ej:=Yu (s:=z) ek (by omega)
 rw [e0] at ej
 simp [Bf,M4,e1,JD,show-4611686018427387904≤v∧v<4611686018427387904 from ⟨by omega,by omega⟩,Cd,e2,e0,isStr,ej]
end HM
namespace HM
open PySem L2
def Ko(c:Nat):Bool:=decide (32≤c)&&decide (c≤126)&&decide (c≠37)
def BZ(s:List Nat):Bool:=s.all Ko
def Rq:D→Bool
 | .str s=>BZ s
 |_=>false
theorem N7{c:Nat}:Ko c=true↔LC c:=by
 unfold Ko LC
 simp [and_assoc]
end HM
namespace HM
open PySem L2
theorem WR(ns:List Int){k:Int}(h0:0≤k):∃c,∀h,L.JF [.Ar ns,.int k] h=.ok (.int c) h:=⟨_,fun _=>cell_eq h0⟩
end HM
namespace HM
open PySem L2
def inC(cs:List Nat)(c:Nat):Bool:=decide (c∈cs)
end HM
namespace HM
open PySem L2
def S9:List Nat:=(Str.ofString "abcdefghijklmnopqrstuvwxyz").cps.toList
def Hw:List Nat:=(Str.ofString "0123456789").cps.toList
def Fd:D→Bool
 | .str s=>decide (1≤s.length)&&decide (s.length≤12)&&s.all (inC S9)
 |_=>false
def isKey:D→Bool
 | .str s=>decide (2≤s.length)&&decide (s.length≤12)&&decide (s[0]? =some 107)&&(s.drop 1).all (inC Hw)
 |_=>false
end HM
namespace HM
open PySem L2
def hxC:List Nat:=(Str.ofString "0123456789abcdef").cps.toList
def YW(n:Nat):List Nat:=List.replicate (18-(Nat.toDigits 16 n).length) 48++(Nat.toDigits 16 n).map Char.toNat
def W4(n:Nat)(c:Nat):Nat:=(n*65599+c)%2361183241434822606617
def dig(s:List Nat):Nat:=s.foldl W4 (s.length+1)
end HM
namespace HM
open PySem L2
end HM
namespace HM
open PySem L2
def FQ(k:Nat):List Nat→List Nat→List (List Nat)
 |acc,[]=>[acc]
 |acc,c::r=>if c=k then acc::FQ k [] r else FQ k (acc++[c]) r
def Tp:List Nat:=(Str.ofString "abcdefghijklmnopqrstuvwxyz0123456789.-_").cps.toList
def Tw:List Nat:=(Str.ofString "abcdefghijklmnopqrstuvwxyz0123456789.-_*").cps.toList
def TV(cs p:List Nat):Bool:=decide (p≠[])&&p.all (inC cs)
def NZ(s cs:List Nat):Bool:=decide (s.length≤60)&&(decide ((FQ 47 [] s).length≤6)&&(FQ 47 [] s).all (TV cs))
def NT(d:D)(cs:List Nat):Bool:=match d with
 | .str s=>NZ s cs
 |_=>false
def Gr(h h':LH):Prop:=∃x,h'=h++x
end HM
namespace HM
open PySem L2
def mt:List Nat→List Nat→Bool
 |[],p=>p.isEmpty
 |c::w,p=>if c=42 then (List.range (p.length+1)).any (fun k=>mt w (p.drop k)) else match p with
  |[]=>false
  |d::p'=>decide (d=c)&&mt w p'
theorem Gr.get{h h':LH}(g:Gr h h'){i:Nat}{o:LO}(e:h[i]? =some o):h'[i]? =some o:=by
 obtain ⟨x,rfl⟩:=g
 rw [List.getElem?_append_left (CK e)]
 exact e
theorem Gr.refl(h:LH):Gr h h:=⟨[],by simp⟩
theorem Gr.trans{h h1 h2:LH}(a:Gr h h1)(b:Gr h1 h2):Gr h h2:=by
 obtain ⟨x,rfl⟩:=a
 obtain ⟨y,rfl⟩:=b
 exact ⟨x++y,by rw [List.append_assoc]⟩
theorem Gr.push(h:LH)(x:List LO):Gr h (h++x):=⟨x,rfl⟩
def Sy:List (List Nat)→List (List Nat)→Bool
 |[],[]=>true
 |w::ws,p::ps=>mt w p&&Sy ws ps
 |_,_=>false
theorem bW{a:M (List D)}{e:EN}{h h1:LH}{n:Int}(ha:a e h=.ok [.int n] h1)(hc: -(2 ^ 62)≤n∧n<2 ^ 62):Dq a e h=.ok (Gh n.toNat,n.toNat) h1:=by
 rw [JD,ha]
 simp only [V7]
 rw [if_pos hc]
theorem bY{a:M (List D)}{e:EN}{h h1:LH}{n:Nat}(ha:a e h=.ok [.int n] h1)(hc:n≤1000000000):Dq a e h=.ok (Gh n,n) h1:=by
 have:=bW ha ⟨by omega,by omega⟩
 rw [Int.toNat_natCast] at this
 exact this
end HM
namespace HM
open PySem L2
theorem SF.ne{r:Nat}{h h':LH}(s:SF r h h'):h'.length≠0:=by
 obtain ⟨a,b,e⟩:=s.st
 have:=CK e
 omega
end HM
namespace HM
open PySem L2
structure Kp(h g:LH):Prop where
 le:h.length≤g.length
 keep:∀i,i<h.length→g[i]? =h[i]?
theorem Kp.refl(h:LH):Kp h h:=⟨Nat.le_refl _,fun _ _=>rfl⟩
theorem Kp.trans{a b c:LH}(x:Kp a b)(y:Kp b c):Kp a c:=⟨Nat.le_trans x.le y.le,fun i hi=>(y.keep i (Nat.lt_of_lt_of_le hi x.le)).trans (x.keep i hi)⟩
theorem Kp.push(h:LH)(x:List LO):Kp h (h++x):=⟨by simp,fun i hi=>List.getElem?_append_left hi⟩
theorem Kp.get{h g:LH}(x:Kp h g){i:Nat}{o:LO}(e:h[i]? =some o):g[i]? =some o:=(x.keep i (CK e)).trans e
theorem Kp.set{h g:LH}(x:Kp h g){i:Nat}{o:LO}(hi:h.length≤i):Kp h (g.set i o):=⟨by simpa using x.le,fun k hk=>by rw [List.getElem?_set_ne (by omega)];exact x.keep k hk⟩
end HM
namespace HM
open PySem L2
mutual
def encD:D→List Nat
 | .str s=>Dk s.length++58::s
 | .int i=>Dk i++[46]
 | .tup xs=>91::(encL xs++[93])
 |_=>[]
def encL:List D→List Nat
 |[]=>[]
 |x::xs=>encD x++encL xs
end
def Ao:Nat→D→Bool
 |_,.str s=>BZ s
 |_,.int i=>decide (0≤i)&&decide (i≤99999999999999999999)
 |r+1,.tup xs=>xs.all (Ao r)
 |_,_=>false
def Ty(h:LH):Nat→D→Prop
 |r,d=>(∃t,BX d h=some t)∧(∀s,d=.str s→s.length≤1000000)∧match r,d with
  |r+1,.tup xs=>∀x∈xs,Ty h r x
  |_,_=>True
theorem Kp.ty{h g:LH}(k:Kp h g):∀{r:Nat} {d:D},Ty h r d→Ty g r d:=by
 have t1:∀(d:D) t,BX d h=some t→BX d g=some t:=by
  intro d t ht
  cases d with
  |ref i=>
   unfold BX at ht ⊢
   simp only at ht ⊢
   cases e:h[i]? with
   |none=>rw [e] at ht;simp at ht
   |some o=>rw [k.get e];rw [e] at ht;exact ht
  |_=>exact ht
 intro r
 induction r with
 |zero=>
  intro d hd
  unfold Ty at hd ⊢
  obtain ⟨⟨t,ht⟩,hs,hx⟩:=hd
  exact ⟨⟨t,t1 d t ht⟩,hs,by cases d<;>trivial⟩
 |succ r ih=>
  intro d hd
  unfold Ty at hd ⊢
  obtain ⟨⟨t,ht⟩,hs,hx⟩:=hd
  refine ⟨⟨t,t1 d t ht⟩,hs,?_⟩
  cases d with
  |tup xs=>exact fun x hx'=>ih (hx x hx')
  |_=>trivial
theorem Jj{n:Nat}(h:n<10 ^ 20):(Dk (n:Int)).length≤20:=by
 unfold Dk
 have e:(Str.ofString (toString ((n:Nat):Int))).cps.toList=(Nat.toDigits 10 n).map Char.toNat:=by
  have:=PyProof.Rows.text_ofNat n
  have e2:(Str.ofString (toString (Int.ofNat n))).cps.toList=(Nat.toDigits 10 n).map Char.toNat:=by rw [this]
  exact e2
 rw [e,List.length_map]
 exact (Nat.length_toDigits_le_iff (n:=n) (b:=10) (k:=20) (by decide) (by decide)).mpr h
theorem VB{n:Nat}:Dk (n:Int)=(Nat.toDigits 10 n).map Char.toNat:=by
 unfold Dk
 have:=PyProof.Rows.text_ofNat n
 have e2:(Str.ofString (toString (Int.ofNat n))).cps.toList=(Nat.toDigits 10 n).map Char.toNat:=by rw [this]
 exact e2
theorem G9(s:List Nat):encD (.str s)=Dk s.length++58::s:=by rw [encD]
theorem Q_(i:Int):encD (.int i)=Dk i++[46]:=by rw [encD]
theorem RB(xs:List D):encD (.tup xs)=91::(encL xs++[93]):=by rw [encD]
theorem XS(r:Nat)(d:D)(h:Ao r d=true):0<(encD d).length:=by
 cases d with
 |str s=>rw [G9];simp<;>omega
 |int i=>rw [Q_];simp
 |tup xs=>rw [RB];simp
 |_=>cases r<;>simp [Ao] at h
theorem Ty.out{h:LH}{r:Nat}{d:D}(t:Ty h r d):(∃t,BX d h=some t)∧(∀s,d=.str s→s.length≤1000000):=by
 unfold Ty at t
 exact ⟨t.1,t.2.1⟩
theorem Ty.items{h:LH}{r:Nat}{xs:List D}(t:Ty h (r+1) (.tup xs)):∀x∈xs,Ty h r x:=by
 unfold Ty at t
 exact t.2.2
theorem Vb{xs:List D}:(encD (.tup xs)).length=(encL xs).length+2:=by
 rw [RB]
 simp
end HM
namespace HM
open PySem L2
def Gu(s:List Nat):Prop:=s.length≤1000000∧∀c∈s,c<1114112
def Cl(h:LH):Nat→D→Prop
 |0,d=>match d with
  | .non=>True
  | .bl _=>True
  | .int _=>True
  | .str s=>Gu s
  |_=>False
 |r+1,d=>match d with
  | .non=>True
  | .bl _=>True
  | .int _=>True
  | .str s=>Gu s
  | .tup xs=>xs.length≤200000∧∀x∈xs,Cl h r x
  | .ref i=>∃xs,h[i]? =some (.lst xs)∧xs.length≤200000∧∀x∈xs,Cl h r x
  |_=>False
theorem Cl.kp{h g:LH}(k:Kp h g):∀{r:Nat} {d:D},Cl h r d→Cl g r d:=by
 intro r
 induction r with
 |zero=>
  intro d hd
  cases d<;>first|exact hd|trivial
 |succ r ih=>
  intro d hd
  cases d with
  |tup xs=>exact ⟨hd.1,fun x hx=>ih (hd.2 x hx)⟩
  |ref i=>
   obtain ⟨xs,e,hl,hx⟩:=hd
   exact ⟨xs,k.get e,hl,fun x hm=>ih (hx x hm)⟩
  |_=>first|exact hd|trivial
theorem Cl.up{h:LH}:∀{r:Nat} {d:D},Cl h r d→Cl h (r+1) d:=by
 intro r
 induction r with
 |zero=>
  intro d hd
  cases d<;>first|exact hd|exact hd.elim|trivial
 |succ r ih=>
  intro d hd
  cases d with
  |tup xs=>exact ⟨hd.1,fun x hx=>ih (hd.2 x hx)⟩
  |ref i=>
   obtain ⟨xs,e,hl,hx⟩:=hd
   exact ⟨xs,e,hl,fun x hm=>ih (hx x hm)⟩
  |_=>first|exact hd|trivial
theorem Cl.mono{h:LH}{r r':Nat}{d:D}(hr:r≤r')(c:Cl h r d):Cl h r' d:=by
 induction hr with
 |refl=>exact c
 |step _ ih=>exact ih.up
theorem Cl.str{h:LH}{r:Nat}{s:List Nat}(c:Cl h r (.str s)):Gu s:=by cases r<;>exact c
theorem Cl.len{h:LH}{r:Nat}{d:D}(c:Cl h r d):∀s,d=.str s→s.length≤1000000:=by
 rintro s rfl
 exact c.str.1
theorem Cl.tup{h:LH}{r:Nat}{xs:List D}(c:Cl h (r+1) (.tup xs)):xs.length≤200000∧∀x∈xs,Cl h r x:=c
theorem Cl.ty{h:LH}{r:Nat}{d:D}(c:Cl h r d):∃t,BX d h=some t:=by
 cases r with
 |zero=>cases d<;>first|exact ⟨_,rfl⟩|exact c.elim
 |succ r=>
  cases d with
  |ref i=>
   obtain ⟨xs,e,_⟩:=c
   exact ⟨.list,by unfold BX;simp only [e]⟩
  |Ar _=>exact c.elim
  |Cg _=>exact c.elim
  |Bv _ _ _=>exact c.elim
  |_=>exact ⟨_,rfl⟩
def GP(r:Nat)(p:PyData):Prop:=PyData.canLay0 p=true∧PyData.depth p≤r
theorem Mw{h:LH}{r m:Nat}:∀{xs:List D},(∀x∈xs,∀n,m≤n→∃p,toP n h x=some p∧GP r p)→∀n,m+xs.length+1≤n→∃ps,Ca n h xs=some ps∧ps.length=xs.length∧PyData.canLayAll0 ps=true∧PyData.depthAll ps≤r
 |[],_,n,hn=>by
  obtain ⟨k,rfl⟩:∃k,n=k+1:=⟨n-1,by omega⟩
  exact ⟨[],by unfold Ca;rfl,rfl,rfl,Nat.zero_le _⟩
 |x::xs,hx,n,hn=>by
  rw [List.length_cons] at hn
  obtain ⟨k,rfl⟩:∃k,n=k+1:=⟨n-1,by omega⟩
  obtain ⟨p,e1,g1⟩:=hx x (by simp) k (by omega)
  obtain ⟨ps,e2,l2,c2,d2⟩:=Mw (xs:=xs) (fun y hy=>hx y (by simp [hy])) k (by omega)
  refine ⟨p::ps,?_,by simp [l2],?_,?_⟩
  ·unfold Ca
   simp only [e1,e2]
  ·show (PyData.canLay0 p&&PyData.canLayAll0 ps)=true
   rw [g1.1,c2];rfl
  ·show max (PyData.depth p) (PyData.depthAll ps)≤r
   have:=g1.2
   omega
def fK(d:D)(p:PyData):Prop:=match d with
 | .non=>p=.none
 | .bl b=>p=.bool b
 | .int i=>p=.int i
 | .str s=>p=.str ⟨s.toArray⟩
 | .tup xs=>∃ps,p=.tuple ps∧ps.length=xs.length
 | .ref _=>∃ps,p=.list ps
 |_=>False
theorem VF{s:List Nat}(h:Gu s):PyData.strOk ⟨s.toArray⟩=true:=by
 unfold PyData.strOk
 simp only [List.all_toArray,List.all_eq_true,decide_eq_true_eq]
 intro c hc
 exact h.2 c hc
theorem WY{h:LH}:∀{r:Nat} {d:D},Cl h r d→∀n,200010*(r+1)≤n→∃p,toP n h d=some p∧GP r p∧fK d p:=by
 intro r
 induction r with
 |zero=>
  intro d hd n hn
  obtain ⟨k,rfl⟩:∃k,n=k+1:=⟨n-1,by omega⟩
  cases d with
  |non=>exact ⟨_,by unfold toP;rfl,⟨rfl,Nat.le_refl _⟩,rfl⟩
  |bl b=>exact ⟨_,by unfold toP;rfl,⟨rfl,Nat.le_refl _⟩,rfl⟩
  |int i=>exact ⟨_,by unfold toP;rfl,⟨rfl,Nat.le_refl _⟩,rfl⟩
  |str s=>exact ⟨_,by unfold toP;rfl,⟨(by show PyData.strOk _=true;exact VF hd),Nat.le_refl _⟩,rfl⟩
  |_=>exact hd.elim
 |succ r ih=>
  intro d hd n hn
  obtain ⟨k,rfl⟩:∃k,n=k+1:=⟨n-1,by omega⟩
  cases d with
  |non=>exact ⟨_,by unfold toP;rfl,⟨rfl,Nat.zero_le _⟩,rfl⟩
  |bl b=>exact ⟨_,by unfold toP;rfl,⟨rfl,Nat.zero_le _⟩,rfl⟩
  |int i=>exact ⟨_,by unfold toP;rfl,⟨rfl,Nat.zero_le _⟩,rfl⟩
  |str s=>exact ⟨_,by unfold toP;rfl,⟨(by show PyData.strOk _=true;exact VF hd),Nat.zero_le _⟩,rfl⟩
  |tup xs=>
   obtain ⟨ps,e,hl,c,dp⟩:=Mw (h:=h) (r:=r) (m:=200010*(r+1)) (xs:=xs) (fun x hx n hn=>by
    obtain ⟨p,a,b,_⟩:=ih (hd.2 x hx) n hn
    exact ⟨p,a,b⟩) k (by have:=hd.1;omega)
   refine ⟨.tuple ps,?_,⟨c,?_⟩,ps,rfl,hl⟩
   ·unfold toP
    simp only [e,Option.map_some]
   ·show PyData.depthAll ps+1≤r+1
    omega
  |ref i=>
   obtain ⟨xs,ei,hl0,hx⟩:=hd
   obtain ⟨ps,e,hl,c,dp⟩:=Mw (h:=h) (r:=r) (m:=200010*(r+1)) (xs:=xs) (fun x hm n hn=>by
    obtain ⟨p,a,b,_⟩:=ih (hx x hm) n hn
    exact ⟨p,a,b⟩) k (by omega)
   refine ⟨.list ps,?_,⟨c,?_⟩,ps,rfl⟩
   ·unfold toP
    simp only [ei,e,Option.map_some]
   ·show PyData.depthAll ps+1≤r+1
    omega
  |_=>exact hd.elim
theorem GP.shaped{r:Nat}{p:PyData}(g:GP r p)(hr:r≤40):SeqAt.shaped p=true:=by
 unfold SeqAt.shaped
 rw [g.1,Bool.true_and]
 exact decide_eq_true (by have:=g.2;omega)
def Ep(s:List Nat)(d:D):Bool:=match d with
 | .str t=>decide (t=s)
 |_=>false
def isInt(lo hi:Int)(d:D):Bool:=match d with
 | .int i=>decide (lo≤i∧i≤hi)
 |_=>false
theorem Rm{lo hi:Int}{d:D}(h:isInt lo hi d=true):∃i,d=.int i∧lo≤i∧i≤hi:=by
 cases d with
 |int i=>exact ⟨i,rfl,by simpa [isInt] using h⟩
 |_=>cases h
theorem Nt{lo hi i:Int}(h1:lo≤i)(h2:i≤hi):isInt lo hi (.int i)=true:=by
 simp [isInt,h1,h2]
abbrev HF(d:D):Bool:=isInt 1 1000000000000 d
abbrev IW(d:D):Bool:=isInt 0 1000000000000 d
def Kc(d:D):Bool:=match d with
 | .str s=>decide (s.length=18)&&s.all (inC hxC)
 |_=>false
end HM
namespace HM
open PySem L2
def cd:D→List Nat
 | .str s=>s
 |_=>[]
def GZ:List (List Nat)→Bool
 |a::b::l=>decide (a<b)&&GZ (b::l)
 |_=>true
theorem Rp{d:D}(h:isKey d=true):d=.str (cd d):=by
 cases d<;>first|rfl|(simp [isKey] at h;done)
theorem Yh{d:D}(h:Fd d=true):d=.str (cd d):=by
 cases d<;>first|rfl|(simp [Fd] at h;done)
def CJ(d:D):Bool:=match d with
 | .tup [a,.tup ks]=>decide (ks.length≤16)&&(ks.all isKey&&(GZ (ks.map cd)&&isInt 1 ks.length a))
 |_=>false
end HM
namespace HM
open PySem L2
def CV:List Nat:=(Str.ofString "charter").cps.toList
def Cr:List Nat:=(Str.ofString "stamp").cps.toList
def Es:List Nat:=(Str.ofString "shelf").cps.toList
def Ci:List Nat:=(Str.ofString "list").cps.toList
theorem kinds:CV≠Cr∧CV≠Es∧CV≠Ci∧Cr≠Es∧Cr≠Ci∧Es≠Ci:=by decide+kernel
def Ke(d:D):Bool:=match d with
 | .tup [a,b,c]=>HF a&&(IW b&&Kc c)
 |_=>false
def JW(d:D):Bool:=match d with
 | .tup [k,v,e,s]=>Ep Cr k&&(HF v&&(IW e&&Ke s))
 |_=>false
def Ib(d:D):Bool:=match d with
 | .tup [k,v,e,.tup rs]=>Ep CV k&&(HF v&&(IW e&&(decide (rs.length=4)&&rs.all CJ)))
 |_=>false
end HM
namespace HM
open PySem L2
def Xu(d:D):D:=match d with
 | .tup (x::_)=>x
 |_=>.non
def DG(d:D):List Nat:=cd (Xu d)
def Np(d:D):Bool:=match d with
 | .tup [n,a,b,c]=>Fd n&&Ke (.tup [a,b,c])
 |_=>false
def JV(d:D):Bool:=match d with
 | .tup [k,v,e,.tup rs]=>Ep Es k&&(HF v&&(IW e&&(decide (rs.length≤32)&&(rs.all Np&&(GZ (rs.map DG)&&(rs.map DG).any fun t=>decide (t=Ci))))))
 |_=>false
end HM
namespace HM
open PySem L2
abbrev Yj(d:D):Bool:=NT d Tp
abbrev Yk(d:D):Bool:=NT d Tw
def JT(d:D):Bool:=match d with
 | .tup [n,rl,.tup ps,l]=>Fd n&&(!Ep Ci n&&(CJ rl&&(decide (ps.length≤8)&&(!ps.isEmpty&&(ps.all Yk&&isInt 0 1 l)))))
 |_=>false
end HM
namespace HM
open PySem L2
def Nr(d:D):Bool:=match d with
 | .tup [p,l,g]=>Yj p&&(IW l&&Kc g)
 |_=>false
def Qm(d:D):Bool:=match d with
 | .tup rs=>decide (rs.length≤64)&&(rs.all Nr&&GZ (rs.map DG))
 |_=>false
def IV:List (List Nat)→List D→Bool
 |_,[]=>true
 |seen,g::gs=>JT g&&(!(seen.any fun t=>decide (t=DG g))&&IV (seen++[DG g]) gs)
theorem YQ{seen:List (List Nat)}{g:D}{gs:List D}:IV seen (g::gs)=(JT g&&(!(seen.any fun t=>decide (t=DG g))&&IV (seen++[DG g]) gs)):=by
 rw [IV]
def Qn(s:List Nat)(d:D):Bool:=match d with
 | .tup gs=>decide (gs.length≤32)&&IV [s] gs
 |_=>false
def isList(d:D):Bool:=match d with
 | .tup [k,n,v,e,g,gr]=>Ep Ci k&&(HF v&&(IW e&&(Fd n&&(Qm g&&Qn (cd n) gr))))
 |_=>false
end HM
namespace HM
open PySem L2
def JC(t:List Nat)(s:Nat):List Nat:=(t.drop s).takeWhile (inC Hw)
def pNum(t:List Nat)(s:Nat):Option (Nat×Nat):=if (JC t s).length=0∨20<(JC t s).length then none else if t[s]? =some 48∧1<(JC t s).length then none else some (PySem.NumText.digitsVal (JC t s),s+(JC t s).length)
def Tf(t:List Nat)(s:Nat):Option (D×Nat):=match pNum t s with
 |none=>none
 |some (n,e)=>if t[e]? =some 46 then some (.int n,e+1) else if t[e]? =some 58∧e+1+n≤t.length then (if BZ ((t.drop (e+1)).take n) then some (.str ((t.drop (e+1)).take n),e+1+n) else none) else none
def Td(f:Nat→Option (D×Nat))(t:List Nat):Nat→Nat→Option (List D×Nat)
 |0,_=>none
 |k+1,s=>if t[s]? =some 93 then some ([],s+1) else match f s with
  |none=>none
  |some (x,e)=>match Td f t k e with
   |none=>none
   |some (xs,q)=>some (x::xs,q)
def pVal(t:List Nat):Nat→Nat→Option (D×Nat)
 |0,s=>if t[s]? =some 91 then none else Tf t s
 |r+1,s=>if t[s]? =some 91 then (match Td (pVal t r) t (t.length+1) (s+1) with
  |none=>none
  |some (xs,e)=>some (.tup xs,e)) else Tf t s
end HM
namespace HM
open PySem L2
end HM
namespace HM
open PySem L2
def Q8(d:D):Option D:=match d with
 | .str t=>if t.length≤100000 then (match pVal t 8 0 with
  |some (v,e)=>if e=t.length then some v else none
  |none=>none) else none
 |_=>none
end HM
namespace HM
open PySem L2
theorem Ym(s:List Nat):Ep s (.str s)=true:=by simp [Ep]
def Ei(s:List Nat):Prop:=s.length≤100∧∀c∈s,c<128
def Sm:Nat→D→Prop
 |0,d=>match d with
  | .int i=>0≤i∧i≤10000000000000
  | .str s=>Ei s
  |_=>False
 |r+1,d=>match d with
  | .int i=>0≤i∧i≤10000000000000
  | .str s=>Ei s
  | .tup xs=>xs.length≤100∧∀x∈xs,Sm r x
  |_=>False
theorem Ei.ok{s:List Nat}(h:Ei s):Gu s:=⟨by have:=h.1;omega,fun c hc=>by have:=h.2 c hc;omega⟩
theorem Sm.cl{h:LH}:∀{r:Nat} {d:D},Sm r d→Cl h r d:=by
 intro r
 induction r with
 |zero=>
  intro d hd
  cases d<;>first|exact hd.elim|trivial|exact Ei.ok hd
 |succ r ih=>
  intro d hd
  cases d with
  |tup xs=>exact ⟨by have:=hd.1;omega,fun x hx=>ih (hd.2 x hx)⟩
  |_=>first|exact hd.elim|trivial|exact Ei.ok hd
end HM
namespace HM
open PySem L2
theorem Sm.up:∀{r:Nat} {d:D},Sm r d→Sm (r+1) d:=by
 intro r
 induction r with
 |zero=>
  intro d hd
  cases d<;>first|exact hd|exact hd.elim
 |succ r ih=>
  intro d hd
  cases d with
  |tup xs=>exact ⟨hd.1,fun x hx=>ih (hd.2 x hx)⟩
  |_=>first|exact hd|exact hd.elim
theorem Sm.mono{r r':Nat}{d:D}(hr:r≤r')(c:Sm r d):Sm r' d:=by
 induction hr with
 |refl=>exact c
 |step _ ih=>exact ih.up
theorem Jb{cs:List Nat}(h:cs.all (fun c=>decide (c<128))=true){c:Nat}(hc:c∈cs):c<128:=of_decide_eq_true (List.all_eq_true.mp h c hc)
theorem W6{c:Nat}(h:c∈Hw):c<128:=Jb (by decide+kernel) h
theorem aF{c:Nat}(h:c∈S9):c<128:=Jb (by decide+kernel) h
theorem Yc{c:Nat}(h:c∈hxC):c<128:=Jb (by decide+kernel) h
theorem aU{c:Nat}(h:c∈Tp):c<128:=Jb (by decide+kernel) h
theorem bA{c:Nat}(h:c∈Tw):c<128:=Jb (by decide+kernel) h
theorem JR{cs:List Nat}{s:List Nat}(h:s.all (inC cs)=true){c:Nat}(hc:c∈s):c∈cs:=of_decide_eq_true (List.all_eq_true.mp h c hc)
theorem ZL{d:D}(h:isKey d=true):Sm 0 d:=by
 obtain ⟨s,rfl⟩:∃s,d=.str s:=⟨_,Rp h⟩
 unfold isKey at h
 simp only [Bool.and_eq_true,decide_eq_true_eq] at h
 refine ⟨by omega,fun c hc=>?_⟩
 cases s with
 |nil=>simp at hc
 |cons a l=>
  rcases List.mem_cons.mp hc with rfl|hc
  ·have:=h.1.2
   simp at this
   omega
  ·exact W6 (JR h.2 (by simpa using hc))
theorem N5{d:D}(h:Fd d=true):Sm 0 d:=by
 obtain ⟨s,rfl⟩:∃s,d=.str s:=⟨_,Yh h⟩
 unfold Fd at h
 simp only [Bool.and_eq_true,decide_eq_true_eq] at h
 exact ⟨by omega,fun c hc=>aF (JR h.2 hc)⟩
theorem Q9{d:D}(h:Kc d=true):Sm 0 d:=by
 cases d with
 |str s=>
  unfold Kc at h
  simp only [Bool.and_eq_true,decide_eq_true_eq] at h
  exact ⟨by omega,fun c hc=>Yc (JR h.2 hc)⟩
 |_=>cases h
theorem Wg{k:Nat}:∀(s acc:List Nat) (c:Nat),c∈s∨c∈acc→c=k∨∃p∈FQ k acc s,c∈p:=by
 intro s
 induction s with
 |nil=>
  intro acc c h
  rcases h with h|h
  ·simp at h
  ·exact .inr ⟨acc,by simp [FQ],h⟩
 |cons a l ih=>
  intro acc c h
  unfold FQ
  by_cases q:a=k
  ·rw [if_pos q]
   rcases h with h|h
   ·rcases List.mem_cons.mp h with rfl|h
    ·exact .inl q
    ·rcases ih [] c (.inl h) with h|⟨p,hp,hc⟩
     ·exact .inl h
     ·exact .inr ⟨p,by simp [hp],hc⟩
   ·exact .inr ⟨acc,by simp,h⟩
  ·rw [if_neg q]
   refine ih (acc++[a]) c ?_
   rcases h with h|h
   ·rcases List.mem_cons.mp h with rfl|h
    ·exact .inr (by simp)
    ·exact .inl h
   ·exact .inr (by simp [h])
theorem Tn{d:D}{cs:List Nat}(h:NT d cs=true)(hc:∀c∈cs,c<128):Sm 0 d:=by
 cases d with
 |str s=>
  have h:NZ s cs=true:=h
  unfold NZ at h
  simp only [Bool.and_eq_true,decide_eq_true_eq,List.all_eq_true] at h
  refine ⟨by omega,fun c hm=>?_⟩
  rcases Wg (k:=47) s [] c (.inl hm) with hk|⟨p,hp,hc2⟩
  ·omega
  ·have:=h.2.2 p hp
   unfold TV at this
   rw [Bool.and_eq_true] at this
   exact hc c (JR this.2 hc2)
 |_=>cases h
theorem Dh{d:D}{lo hi:Int}(h:isInt lo hi d=true)(h0:0≤lo)(h1:hi≤10000000000000)(r:Nat):Sm r d:=by
 obtain ⟨i,rfl,a,b⟩:=Rm h
 cases r<;>exact ⟨by omega,by omega⟩
theorem VN{d:D}(h:Ke d=true):Sm 1 d:=by
 unfold Ke at h
 split at h
 ·rename_i a b c
  rw [Bool.and_eq_true,Bool.and_eq_true] at h
  refine ⟨by simp,fun x hx=>?_⟩
  simp at hx
  rcases hx with rfl|rfl|rfl
  ·exact Dh h.1 (by decide) (by decide) 0
  ·exact Dh h.2.1 (by decide) (by decide) 0
  ·exact Q9 h.2.2
 ·cases h
theorem Kf{k:List Nat}{d:D}(h:Ep k d=true)(hk:Ei k):Sm 0 d:=by
 cases d with
 |str s=>
  have:s=k:=of_decide_eq_true h
  subst this
  exact hk
 |_=>cases h
theorem dZ:Ei CV:=⟨by decide+kernel,by decide+kernel⟩
theorem d7:Ei Cr:=⟨by decide+kernel,by decide+kernel⟩
theorem dw:Ei Es:=⟨by decide+kernel,by decide+kernel⟩
theorem dh:Ei Ci:=⟨by decide+kernel,by decide+kernel⟩
theorem eE{d:D}(h:JW d=true):Sm 2 d:=by
 unfold JW at h
 split at h
 ·rename_i k v e s
  simp only [Bool.and_eq_true] at h
  refine ⟨by simp,fun x hx=>?_⟩
  simp at hx
  rcases hx with rfl|rfl|rfl|rfl
  ·exact (Kf h.1 d7).mono (by omega)
  ·exact Dh h.2.1 (by decide) (by decide) 1
  ·exact Dh h.2.2.1 (by decide) (by decide) 1
  ·exact VN h.2.2.2
 ·cases h
theorem Ud{d:D}(h:CJ d=true):Sm 2 d:=by
 unfold CJ at h
 split at h
 ·rename_i a ks
  simp only [Bool.and_eq_true,decide_eq_true_eq,List.all_eq_true] at h
  refine ⟨by simp,fun x hx=>?_⟩
  simp at hx
  rcases hx with rfl|rfl
  ·exact Dh h.2.2.2 (by decide) (by omega) 1
  ·exact ⟨by omega,fun y hy=>ZL (h.2.1 y hy)⟩
 ·cases h
theorem WW{d:D}(h:Ib d=true):Sm 4 d:=by
 unfold Ib at h
 split at h
 ·rename_i k v e rs
  simp only [Bool.and_eq_true,decide_eq_true_eq,List.all_eq_true] at h
  refine ⟨by simp,fun x hx=>?_⟩
  simp at hx
  rcases hx with rfl|rfl|rfl|rfl
  ·exact (Kf h.1 dZ).mono (by omega)
  ·exact Dh h.2.1 (by decide) (by decide) 3
  ·exact Dh h.2.2.1 (by decide) (by decide) 3
  ·exact ⟨by omega,fun y hy=>Ud (h.2.2.2.2 y hy)⟩
 ·cases h
theorem Xc{d:D}(h:Np d=true):Sm 1 d:=by
 unfold Np at h
 split at h
 ·rename_i n a b c
  rw [Bool.and_eq_true] at h
  have:=VN h.2
  refine ⟨by simp,fun x hx=>?_⟩
  simp at hx
  rcases hx with rfl|rfl|rfl|rfl
  ·exact N5 h.1
  ·exact this.2 _ (by simp)
  ·exact this.2 _ (by simp)
  ·exact this.2 _ (by simp)
 ·cases h
theorem dY{d:D}(h:JV d=true):Sm 3 d:=by
 unfold JV at h
 split at h
 ·rename_i k v e rs
  simp only [Bool.and_eq_true,decide_eq_true_eq,List.all_eq_true] at h
  refine ⟨by simp,fun x hx=>?_⟩
  simp at hx
  rcases hx with rfl|rfl|rfl|rfl
  ·exact (Kf h.1 dw).mono (by omega)
  ·exact Dh h.2.1 (by decide) (by decide) 2
  ·exact Dh h.2.2.1 (by decide) (by decide) 2
  ·exact ⟨by omega,fun y hy=>Xc (h.2.2.2.2.1 y hy)⟩
 ·cases h
theorem YS{d:D}(h:JT d=true):Sm 3 d:=by
 unfold JT at h
 split at h
 ·rename_i n rl ps l
  simp only [Bool.and_eq_true,decide_eq_true_eq,List.all_eq_true] at h
  refine ⟨by simp,fun x hx=>?_⟩
  simp at hx
  rcases hx with rfl|rfl|rfl|rfl
  ·exact (N5 h.1).mono (by omega)
  ·exact Ud h.2.2.1
  ·exact ⟨by omega,fun y hy=>(Tn (h.2.2.2.2.2.1 y hy) fun c=>bA).mono (by omega)⟩
  ·exact Dh h.2.2.2.2.2.2 (by decide) (by decide) 2
 ·cases h
theorem YM{d:D}(h:Nr d=true):Sm 1 d:=by
 unfold Nr at h
 split at h
 ·rename_i p l g
  simp only [Bool.and_eq_true] at h
  refine ⟨by simp,fun x hx=>?_⟩
  simp at hx
  rcases hx with rfl|rfl|rfl
  ·exact Tn h.1 fun c=>aU
  ·exact Dh h.2.1 (by decide) (by decide) 0
  ·exact Q9 h.2.2
 ·cases h
theorem Rc:∀{gs:List D} {seen:List (List Nat)},IV seen gs=true→∀g∈gs,JT g=true
 |[],_,_,g,hg=>by simp at hg
 |a::l,seen,h,g,hg=>by
  rw [YQ,Bool.and_eq_true,Bool.and_eq_true] at h
  rcases List.mem_cons.mp hg with rfl|hg
  ·exact h.1
  ·exact Rc h.2.2 g hg
theorem Zj{d:D}(h:isList d=true):Sm 5 d:=by
 unfold isList at h
 split at h
 ·rename_i k n v e g gr
  simp only [Bool.and_eq_true] at h
  refine ⟨by simp,fun x hx=>?_⟩
  simp at hx
  rcases hx with rfl|rfl|rfl|rfl|rfl|rfl
  ·exact (Kf h.1 dh).mono (by omega)
  ·exact (N5 h.2.2.2.1).mono (by omega)
  ·exact Dh h.2.1 (by decide) (by decide) 4
  ·exact Dh h.2.2.1 (by decide) (by decide) 4
  ·have hg:=h.2.2.2.2.1
   cases x with
   |tup rs=>
    unfold Qm at hg
    simp only [Bool.and_eq_true,decide_eq_true_eq,List.all_eq_true] at hg
    exact ⟨by omega,fun y hy=>(YM (hg.2.1 y hy)).mono (r':=3) (by decide)⟩
   |_=>cases hg
  ·have hg:=h.2.2.2.2.2
   cases x with
   |tup rs=>
    unfold Qn at hg
    simp only [Bool.and_eq_true,decide_eq_true_eq] at hg
    exact ⟨by omega,fun y hy=>YS (Rc hg.2 y hy)⟩
   |_=>cases hg
 ·cases h
def ZQ(d:D):List Bool:=[Ib d,JW d,JV d,isList d]
theorem eG{n:Int}{h:LH}:∃h1,L.IK [.int n] h=.ok (.ref h.length) h1∧Bj h1 h.length∧Kp h h1:=by
 refine ⟨_,eV,?_,Kp.push _ _⟩
 unfold Bj
 split
 ·exact ⟨n,1,by simp⟩
 ·exact ⟨0,n,by simp⟩
structure Kind(FD FX FL:MF)(p:D→Bool)(kk:Nat)(kd:List Nat):Prop where
 draw:∀h s,Bj h s→∃d h',FD [.ref s] h=.ok d h'∧p d=true∧SF s h h'
 sm:∀d,p d=true→Sm 6 d
 fx:∀h r d,Cl h r d→r≤40→∃h',Kp h h'∧FX [d] h=.ok (.bl (p d)) h'
 fl:∀h r d,Cl h r d→r≤40→∃h',Kp h h'∧FL [d] h=.ok (.bl (p d)) h'
 k4:∀d,p d=true→ZQ d=(List.range 4).map fun m=>decide (m=kk)
 row:∀d,p d=true→∃xs,d=.tup xs∧p (.tup xs.tail)=false
 non:p .non=false
 rf:∀i,p (.ref i)=false
 tx:∀s,p (.str s)=false
 ok:Gu kd
end HM
namespace HM
open PySem L2
def Kd(d:D):Bool:=Ib d||(JW d||(JV d||isList d))
theorem Yl{k:List Nat}{d:D}(h:Ep k d=true):d=.str k:=by
 cases d with
 |str s=>have:s=k:=of_decide_eq_true h;rw [this]
 |_=>cases h
inductive Lw:D→Prop
 |two {k:List Nat} {n:Nat} {e b:D}:n≤1000000000000→(k=CV∨k=Es)→Lw (.tup [.str k,.int n,e,b])
 |stamp {n:Nat} {e b:D}:n≤1000000000000→Lw (.tup [.str Cr,.int n,e,b])
 |list {m:List Nat} {n:Nat} {e g gr:D}:n≤1000000000000→Fd (.str m)=true→Lw (.tup [.str Ci,.str m,.int n,e,g,gr])
def S_(d:D):List Nat:=match d with
 | .tup [.str k,.int v,_,_]=>if k=Cr then Cr else Dk v++46::k
 | .tup [.str _,.str m,.int v,_,_,_]=>Dk v++46::(m++46::Ci)
 |_=>[]
theorem aD{k:List Nat}{v:Int}{e b:D}:S_ (.tup [.str k,.int v,e,b])=if k=Cr then Cr else Dk v++46::k:=rfl
theorem ZC:CV.length≤10∧Cr.length≤10∧Es.length≤10∧Ci.length≤10:=by decide+kernel
theorem eO{n:Nat}(h:n≤1000000000000):(Dk (n:Int)).length≤13:=by
 rw [VB,List.length_map]
 exact (Nat.length_toDigits_le_iff (n:=n) (b:=10) (k:=13) (by decide) (by decide)).mpr (by omega)
end HM
namespace HM
open PySem L2
end HM
namespace HM
open PySem L2
theorem J8{h:LH}{i j:Nat}{a b:List D}(hi:h[i]? =some (.lst a))(hj:h[j]? =some (.lst b))(hl:a.length+b.length≤16777216):Bb (.ref i) (.ref j) h=.ok (.ref h.length) (h++[.lst (a++b)]):=by
 show (match h[i]?, h[j]? with
  |some (.lst a),some (.lst b)=>if a.length+b.length≤16777216 then Res.ok (D.ref h.length) (h++[LO.lst (a++b)]) else .bad
  |_,_=>.bad)=_
 rw [hi,hj]
 simp only [if_pos hl]
end HM
namespace HM
open PySem L2
end HM
namespace HM
open PySem L2
end HM
namespace HM
open PySem L2
theorem W7{d:D}(h:Kd d=true):Sm 6 d:=by
 unfold Kd at h
 simp only [Bool.or_eq_true] at h
 rcases h with h|h|h|h
 ·exact (WW h).mono (by decide)
 ·exact (eE h).mono (by decide)
 ·exact (dY h).mono (by decide)
 ·exact (Zj h).mono (by decide)
inductive QZ:D→Prop
 |four {k:List Nat} {v e b:D}:HF v=true→k≠Ci→QZ (.tup [.str k,v,e,b])
 |six {m v e g gr:D}:HF v=true→Fd m=true→QZ (.tup [.str Ci,m,v,e,g,gr])
end HM
namespace HM
open PySem L2
theorem M_{xs:List D}{x:D}(h:x∈xs):(encD x).length≤(encL xs).length:=by
 induction xs with
 |nil=>cases h
 |cons a xs ih=>
  rw [encL,List.length_append]
  rcases List.mem_cons.mp h with rfl|h
  ·omega
  ·have:=ih h
   omega
theorem KN{r:Nat}:∀{xs:List D},(∀x∈xs,Ao r x=true)→xs.length≤(encL xs).length
 |[],_=>by simp
 |x::xs,h=>by
  rw [encL,List.length_append]
  have h1:=XS r x (h x (by simp))
  have h2:=KN (xs:=xs) fun y hy=>h y (List.mem_cons_of_mem _ hy)
  simp
  omega
def Bp:Nat→D→D→Bool
 |_,.str s,.str t=>decide (s=t)
 |_,.int i,.int j=>decide (i=j)
 |r+1,.tup xs,.tup ys=>decide (xs.length=ys.length)&&(xs.zip ys).all (fun p=>Bp r p.1 p.2)
 |_,_,_=>false
theorem Uu{r n:Nat}{a b:D}{h:LH}(ha:Ao r a=true)(hb:Ao r b=true)(hl:(encD b).length≤16000000)
  (H:∀xs ys r',a=.tup xs→b=.tup ys→r=r'+1→∀x y,x∈xs→y∈ys→L.Ek n 0 [x,y] h=.ok (.bl (Bp r' x y)) h):
  L.Ek (n+1) 0 [a,b] h=.ok (.bl (Bp r a b)) h:=by
 show A_ 2 3 (L.Jz (L.Ek n)) [a,b] h=_
 rw [Eb (by rfl)]
 unfold L.Jz
 have kinds:∀{d:D},Ao r d=true→(∃s,d=.str s)∨(∃i,d=.int i)∨∃xs r',d=.tup xs∧r=r'+1:=by
  intro d hd
  cases d with
  |str s=>exact .inl ⟨s,rfl⟩
  |int i=>exact .inr (.inl ⟨i,rfl⟩)
  |tup xs=>
   cases r with
   |zero=>simp [Ao] at hd
   |succ r=>exact .inr (.inr ⟨xs,r,rfl,rfl⟩)
  |_=>cases r<;>simp [Ao] at hd
 have dis:∀x:D,∀g,KC x .non g=.ok (.bl (EY x)) g:=fun _ _=>rfl
 rcases kinds hb with ⟨t,rfl⟩|⟨j,rfl⟩|⟨ys,r',rfl,rfl⟩
 ·rcases kinds ha with ⟨s,rfl⟩|⟨i,rfl⟩|⟨xs,r',rfl,hr⟩
  ·have e:Bp r (.str s) (.str t)=decide (s=t):=by cases r<;>rfl
   rw [e]
   simp only [Bf]
   simp [BX,isB,Br,dis,EY,Qv]
  ·have e:Bp r (.int i) (.str t)=false:=by cases r<;>rfl
   rw [e]
   simp only [Bf]
   simp [BX,isB,Br,dis,EY]
  ·have e:Bp r (.tup xs) (.str t)=false:=by cases r<;>rfl
   rw [e]
   simp only [Bf]
   simp [BX,isB,Br,dis,EY]
 ·rcases kinds ha with ⟨s,rfl⟩|⟨i,rfl⟩|⟨xs,r',rfl,hr⟩
  ·have e:Bp r (.str s) (.int j)=false:=by cases r<;>rfl
   rw [e]
   simp only [Bf]
   simp [BX,isB,Br,dis,EY]
  ·have e:Bp r (.int i) (.int j)=decide (i=j):=by cases r<;>rfl
   rw [e]
   simp only [Bf]
   simp [BX,isB,Br,dis,EY,Wj]
  ·have e:Bp r (.tup xs) (.int j)=false:=by cases r<;>rfl
   rw [e]
   simp only [Bf]
   simp [BX,isB,Br,dis,EY]
 ·rcases kinds ha with ⟨s,rfl⟩|⟨i,rfl⟩|⟨xs,r2,rfl,hr⟩
  ·have e:Bp (r'+1) (.str s) (.tup ys)=false:=rfl
   rw [e]
   simp only [Bf]
   simp [BX,isB,Br,Bf]
  ·have e:Bp (r'+1) (.int i) (.tup ys)=false:=rfl
   rw [e]
   simp only [Bf]
   simp [BX,isB,Br,Bf]
  ·have e:Bp (r'+1) (.tup xs) (.tup ys)=(decide (xs.length=ys.length)&&(xs.zip ys).all (fun p=>Bp r' p.1 p.2)):=rfl
   rw [e]
   have hy:∀x∈ys,Ao r' x=true:=by
    have:ys.all (Ao r')=true:=hb
    exact List.all_eq_true.mp this
   by_cases c:xs.length=ys.length
   ·have c':(xs.length:Int)=ys.length:=by omega
    obtain ⟨B,hB⟩:∃B:MS,B=BJ (Bs (Bh (Am (L.Ek n 0) (Ab (Af BP (Aa 0) (Aa 2)) (Ab (Af BP (Aa 1) (Aa 2)) Ag))))) (Aq (mC (.bl false))) BW:=⟨_,rfl⟩
    obtain ⟨G0,hG⟩:∃G0,(xs.zip ys).all (fun p=>Bp r' p.1 p.2)=G0:=⟨_,rfl⟩
    have key:=Kh (g:=Gh ys.length) (t:=.nm 2) (body:=B) (N:=ys.length) (fun j=>.int (j:Nat))
     (fun j e g=>g=h∧(∃v,e=[some (.tup xs),some (.tup ys),v])∧((xs.drop j).zip (ys.drop j)).all (fun p=>Bp r' p.1 p.2)=G0)
     (fun q=>(∃e,q=.next e h∧G0=true)∨(q=.ret (.bl false) h∧G0=false))
     (fun j e g hj hi=>rfl) (by
      rintro j e g hj ⟨rfl,⟨v,rfl⟩,hm⟩
      have jx:j<xs.length:=by omega
      rw [List.drop_eq_getElem_cons jx,List.drop_eq_getElem_cons hj,List.zip_cons_cons,List.all_cons] at hm
      have Ru:BP (.tup xs) (.int (j:Nat)) g=.ok xs[j] g:=Qx (Ho (by omega) (by rw [show ((j:Nat):Int).toNat=j by omega];exact List.getElem?_eq_getElem jx))
      have Rv:BP (.tup ys) (.int (j:Nat)) g=.ok ys[j] g:=Qx (Ho (by omega) (by rw [show ((j:Nat):Int).toNat=j by omega];exact List.getElem?_eq_getElem hj))
      have es:=H xs ys r' rfl rfl rfl xs[j] ys[j] (List.getElem_mem jx) (List.getElem_mem hj)
      refine ⟨[some (.tup xs),some (.tup ys),some (.int (j:Nat))],rfl,?_⟩
      by_cases q:Bp r' xs[j] ys[j]=true
      ·have eb:B [some (.tup xs),some (.tup ys),some (.int (j:Nat))] g=.next [some (.tup xs),some (.tup ys),some (.int (j:Nat))] g:=by
        subst hB
        simp [Ru,Rv,es,q,Br]
       rw [eb]
       refine ⟨rfl,⟨_,rfl⟩,?_⟩
       rw [←hm]
       dsimp only
       rw [q,Bool.true_and]
      ·have q':Bp r' xs[j] ys[j]=false:=by simpa using q
       have eb:B [some (.tup xs),some (.tup ys),some (.int (j:Nat))] g=.ret (.bl false) g:=by
        subst hB
        simp [Ru,Rv,es,q',Br]
       rw [eb]
       refine .inr ⟨rfl,?_⟩
       rw [←hm]
       dsimp only
       rw [q',Bool.false_and])
     (fun e g ⟨hg,_,hm⟩=>by
      subst hg
      rw [List.drop_length,List.zip_nil_right] at hm
      exact .inl ⟨e,rfl,hm.symm⟩) ys.length 0 [some (.tup xs),some (.tup ys),none] h (by omega) ⟨rfl,⟨none,rfl⟩,by rw [List.drop_zero,List.drop_zero];exact hG⟩
    subst hB
    have hlen:ys.length≤1000000000:=by
     have:=KN hy
     rw [Vb] at hl
     omega
    have Xf:=bY (n:=ys.length) (a:=Ab (Am Bu (Ab (Aa 1) Ag)) Ag) (e:=[some (.tup xs),some (.tup ys),none]) (h:=h) (h1:=h) (by simp [Qy]) hlen
    rw [hG,decide_eq_true c,Bool.true_and]
    have W_:(Bh (Bq .tuple (Aa 1))) [some (.tup xs),some (.tup ys),none] h=.ok true h:=rfl
    have eN:CT (.int xs.length) (.int ys.length) h=.ok (.bl false) h:=by rw [M8,decide_eq_true c'];rfl
    have XD:(CN (Bs (Bh (Bq .tuple (Aa 0)))) (Bc (Af CT (Am Bu (Ab (Aa 0) Ag)) (Am Bu (Ab (Aa 1) Ag))))) [some (.tup xs),some (.tup ys),none] h=.ok false h:=by
     show ((CT (.int xs.length) (.int ys.length) h).bind fun x h1=>match x with| .bl b=>Res.ok b h1|_=>.bad)=_
     rw [eN]
     rfl
    have eI:(Ak (BJ (CN (Bs (Bh (Bq .tuple (Aa 0)))) (Bc (Af CT (Am Bu (Ab (Aa 0) Ag)) (Am Bu (Ab (Aa 1) Ag))))) (Aq (mC (.bl false))) BW)
      (Ak (Fv (Dq (Ab (Am Bu (Ab (Aa 1) Ag)) Ag)) (.nm 2) (BJ (Bs (Bh (Am (L.Ek n 0) (Ab (Af BP (Aa 0) (Aa 2)) (Ab (Af BP (Aa 1) (Aa 2)) Ag))))) (Aq (mC (.bl false))) BW))
      (Aq (mC (.bl true))))) [some (.tup xs),some (.tup ys),none] h=.ret (.bl G0) h:=by
     rw [Bf,ev_if,XD]
     show (Ak _ _) _ _=_
     rw [Bf,NK,Xf]
     rcases key with ⟨e,er,hq⟩|⟨er,hq⟩
     ·show (match Dt _ _ _ _ _ _ _ with
       | .next e1 h1=>(Aq (mC (.bl true))) e1 h1
       | .ret d h1=>.ret d h1
       | .brk e1 h1=>.brk e1 h1
       | .cnt e1 h1=>.cnt e1 h1
       | .exc x e1 h1=>.exc x e1 h1
       | .bad=>.bad)=_
      rw [er,hq]
      rfl
     ·show (match Dt _ _ _ _ _ _ _ with
       | .next e1 h1=>(Aq (mC (.bl true))) e1 h1
       | .ret d h1=>.ret d h1
       | .brk e1 h1=>.brk e1 h1
       | .cnt e1 h1=>.cnt e1 h1
       | .exc x e1 h1=>.exc x e1 h1
       | .bad=>.bad)=_
      rw [er,hq]
    rw [show List.map some [D.tup xs,D.tup ys]++List.replicate (3-2) none=[some (.tup xs),some (.tup ys),none] from rfl]
    rw [Bf,ev_if,W_]
    simp only [bf,if_true]
    rw [eI]
   ·have c':¬(xs.length:Int)=ys.length:=by omega
    rw [decide_eq_false c,Bool.false_and]
    simp only [Bf]
    simp [BX,isB,Br,Qy,M8,c,c',Bf]
theorem dU:∀(r n:Nat),r+1≤n→∀(a b:D) (h:LH),Ao r a=true→Ao r b=true→(encD b).length≤16000000→L.Ek n 0 [a,b] h=.ok (.bl (Bp r a b)) h:=by
 intro r
 induction r with
 |zero=>
  intro n hn a b h ha hb hl
  obtain ⟨m,rfl⟩:∃m,n=m+1:=⟨n-1,by omega⟩
  exact Uu ha hb hl fun xs ys r' _ _ z=>absurd z (by omega)
 |succ r ih=>
  intro n hn a b h ha hb hl
  obtain ⟨m,rfl⟩:∃m,n=m+1:=⟨n-1,by omega⟩
  refine Uu ha hb hl fun xs ys r' hx hy hr x y mx my=>?_
  subst hx hy
  have e:r'=r:=by omega
  subst e
  have ha':xs.all (Ao r')=true:=ha
  have hb':ys.all (Ao r')=true:=hb
  rw [Vb] at hl
  exact ih m (by omega) x y h (List.all_eq_true.mp ha' x mx) (List.all_eq_true.mp hb' y my) (by have:=M_ my;omega)
theorem Xd:∀(r:Nat) (a b:D),Ao r a=true→Ao r b=true→(Bp r a b=true↔a=b):=by
 intro r
 induction r with
 |zero=>
  intro a b ha hb
  cases a<;>cases b<;>simp [Ao,Bp] at ha hb ⊢
 |succ r ih=>
  intro a b ha hb
  cases a with
  |tup xs=>
   cases b with
   |tup ys=>
    have ha':∀x∈xs,Ao r x=true:=List.all_eq_true.mp ha
    have hb':∀x∈ys,Ao r x=true:=List.all_eq_true.mp hb
    show (decide (xs.length=ys.length)&&(xs.zip ys).all (fun p=>Bp r p.1 p.2))=true↔D.tup xs=D.tup ys
    rw [D.tup.injEq]
    clear ha hb
    induction xs generalizing ys with
    |nil=>cases ys<;>simp
    |cons x xs Yd=>
     cases ys with
     |nil=>simp
     |cons y ys=>
      have h1:=ih x y (ha' x (by simp)) (hb' y (by simp))
      have h2:=Yd ys (fun z hz=>ha' z (List.mem_cons_of_mem _ hz)) (fun z hz=>hb' z (List.mem_cons_of_mem _ hz))
      simp only [Bool.and_eq_true,decide_eq_true_eq,List.length_cons,List.zip_cons_cons,List.all_cons,List.cons.injEq] at h2 ⊢
      rw [←h2,←h1]
      constructor
      ·rintro ⟨p,q,t⟩
       exact ⟨q,by omega,t⟩
      ·rintro ⟨q,p,t⟩
       exact ⟨by omega,q,t⟩
   |_=>simp [Bp,Ao] at hb ⊢
  |_=>cases b<;>simp [Ao,Bp] at ha hb ⊢
end HM
namespace HM
open PySem L2
structure PE(r n:Nat)(d:D):Prop where
 p:Ao r d=true
 l:(encD d).length≤n
theorem ak:∀{r:Nat} {d:D},Ao r d=true→Ao (r+1) d=true:=by
 intro r
 induction r with
 |zero=>
  intro d h
  cases d<;>first|exact h|(simp [Ao] at h;done)
 |succ r ih=>
  intro d h
  cases d with
  |tup xs=>
   have h':xs.all (Ao r)=true:=h
   show xs.all (Ao (r+1))=true
   rw [List.all_eq_true] at h' ⊢
   exact fun x hx=>ih (h' x hx)
  |_=>exact h
theorem PE.mono{r n r' n':Nat}{d:D}(h:PE r n d)(hr:r≤r')(hn:n≤n'):PE r' n' d:=by
 refine ⟨?_,Nat.le_trans h.l hn⟩
 induction hr with
 |refl=>exact h.p
 |step _ ih=>exact ak ih
theorem Xa{xs:List D}{n:Nat}(h:∀x∈xs,(encD x).length≤n):(encL xs).length≤xs.length*n:=by
 induction xs with
 |nil=>simp [encL]
 |cons a l ih=>
  have h1:=h a (by simp)
  have h2:=ih fun x hx=>h x (by simp [hx])
  rw [encL,List.length_append,List.length_cons,Nat.add_mul]
  omega
theorem Tt{r n k:Nat}{xs:List D}(hl:xs.length≤k)(h:∀x∈xs,PE r n x):PE (r+1) (k*n+2) (.tup xs):=by
 refine ⟨List.all_eq_true.mpr fun x hx=>(h x hx).p,?_⟩
 have h1:=Xa fun x hx=>(h x hx).l
 have h2:xs.length*n≤k*n:=Nat.mul_le_mul_right n hl
 rw [encD]
 simp
 omega
theorem aV{r a b:Nat}{x y:D}(hx:PE r a x)(hy:PE r b y):PE (r+1) (a+b+2) (.tup [x,y]):=by
 refine ⟨by show [x,y].all (Ao r)=true;simp [hx.p,hy.p],?_⟩
 have:=hx.l
 have:=hy.l
 simp [encD,encL]
 omega
theorem aW{r a b c e:Nat}{x y z w:D}(hx:PE r a x)(hy:PE r b y)(hz:PE r c z)(hw:PE r e w):PE (r+1) (a+b+c+e+2) (.tup [x,y,z,w]):=by
 refine ⟨by show [x,y,z,w].all (Ao r)=true;simp [hx.p,hy.p,hz.p,hw.p],?_⟩
 have:=hx.l
 have:=hy.l
 have:=hz.l
 have:=hw.l
 simp [encD,encL]
 omega
theorem VH{s:List Nat}{n:Nat}(r:Nat)(hl:s.length≤n)(hn:n≤900)(hc:BZ s=true):PE r (n+4) (.str s):=by
 refine ⟨by cases r<;>exact hc,?_⟩
 have h3:=(Nat.length_toDigits_le_iff (n:=s.length) (b:=10) (k:=3) (by decide) (by decide)).mpr (by omega)
 rw [G9,VB]
 simp
 omega
theorem Vy{s cs:List Nat}(h:∀c∈s,c∈cs)(hc:BZ cs=true):BZ s=true:=by
 unfold BZ at*
 rw [List.all_eq_true] at*
 exact fun c hm=>hc c (h c hm)
theorem W3:BZ Hw=true:=by decide+kernel
theorem k_all:BZ CV=true∧BZ Cr=true∧BZ Es=true∧BZ Ci=true:=by decide+kernel
theorem Nm{lo hi:Int}{d:D}(r:Nat)(h:isInt lo hi d=true)(h0:0≤lo)(h1:hi≤1000000000000):PE r 14 d:=by
 obtain ⟨i,rfl,a,b⟩:=Rm h
 obtain ⟨k,rfl⟩:∃k:Nat,i=k:=⟨i.toNat,by omega⟩
 refine ⟨by cases r<;>simp [Ao]<;>omega,?_⟩
 have:=eO (n:=k) (by omega)
 rw [Q_]
 simp
 omega
theorem ZK{d:D}(r:Nat)(h:isKey d=true):PE r 16 d:=by
 have hs:=Rp h
 rw [hs] at h ⊢
 generalize cd d=s at h ⊢
 unfold isKey at h
 simp only [Bool.and_eq_true,decide_eq_true_eq] at h
 refine VH r h.1.1.2 (by decide) ?_
 cases s with
 |nil=>rfl
 |cons a l=>
  have ha:a=107:=by simpa using h.1.2
  have hl:BZ l=true:=Vy (fun c hc=>JR h.2 (by simpa using hc)) W3
  subst ha
  unfold BZ at hl ⊢
  rw [List.all_cons,hl]
  decide
theorem ZP{k:List Nat}{d:D}(r:Nat)(h:Ep k d=true)(hl:k.length≤10)(hc:BZ k=true):PE r 14 d:=by
 rw [Yl h]
 exact VH r hl (by decide) hc
theorem K9{d:D}(h:CJ d=true):PE 2 274 d:=by
 unfold CJ at h
 split at h
 ·simp only [Bool.and_eq_true,decide_eq_true_eq,List.all_eq_true] at h
  exact aV (Nm 1 h.2.2.2 (by decide) (by omega)) (Tt (k:=16) (n:=16) (r:=0) h.1 fun y hy=>ZK 0 (h.2.1 y hy))
 ·cases h
end HM
namespace HM
open PySem L2
structure F2(s q:Nat)(h h':LH):Prop where
 le:h.length≤h'.length
 keep:∀i,i<h.length→i≠s→i≠q→h'[i]? =h[i]?
 st:Bj h' s
theorem F2.trans{s q:Nat}{h h1 h2:LH}(a:F2 s q h h1)(b:F2 s q h1 h2):F2 s q h h2:=
 ⟨Nat.le_trans a.le b.le,fun i hi h1 h2=>(b.keep i (Nat.lt_of_lt_of_le hi a.le) h1 h2).trans (a.keep i hi h1 h2),b.st⟩
theorem F2.of{s q:Nat}{h h':LH}(a:SF s h h'):F2 s q h h':=⟨a.le,fun i hi h1 _=>a.keep i hi h1,a.st⟩
theorem F2.get{s q i:Nat}{h h':LH}{o:LO}(a:F2 s q h h')(h1:i≠s)(h2:i≠q)(e:h[i]? =some o):h'[i]? =some o:=(a.keep i (CK e) h1 h2).trans e
structure Vl(s q dp:Nat)(h h':LH)(r r':Int)(d:D):Prop where
 pl:Ao dp d=true
 rm:h'[q]? =some (.lst [.int r'])
 fr:F2 s q h h'
 lo:r'≤r-1
 hi:min (r-1) (-(3*(dp:Int)))≤r'
 ln:((encD d).length:Int)≤109*(r-r')
theorem aj:∀{r:Nat} {d:D},Ao r d=true→Ao (r+1) d=true:=by
 intro r
 induction r with
 |zero=>
  intro d h
  cases d<;>simp [Ao] at h ⊢ <;>exact h
 |succ r ih=>
  intro d h
  cases d with
  |tup xs=>
   have h':xs.all (Ao r)=true:=h
   show xs.all (Ao (r+1))=true
   exact List.all_eq_true.mpr fun x hx=>ih (List.all_eq_true.mp h' x hx)
  |_=>simp [Ao] at h ⊢ <;>exact h
theorem aZ{r r':Nat}{d:D}(hr:r≤r')(h:Ao r d=true):Ao r' d=true:=by
 induction hr with
 |refl=>exact h
 |step _ ih=>exact aj ih
end HM
namespace HM
open PySem L2
end HM
namespace HM
open PySem L2
theorem aY{h:LH}:∀{r:Nat} {d:D},Ao r d=true→(encD d).length≤200000→Cl h (r+1) d:=by
 intro r
 induction r with
 |zero=>
  intro d hp hl
  cases d with
  |str s=>
   have hc:BZ s=true:=hp
   rw [G9] at hl
   simp at hl
   refine ⟨by omega,fun c hm=>?_⟩
   have:=N7.mp (List.all_eq_true.mp hc c hm)
   have:=this.2.1
   omega
  |int i=>trivial
  |_=>simp [Ao] at hp
 |succ r ih=>
  intro d hp hl
  cases d with
  |str s=>
   have hc:BZ s=true:=hp
   rw [G9] at hl
   simp at hl
   refine ⟨by omega,fun c hm=>?_⟩
   have:=N7.mp (List.all_eq_true.mp hc c hm)
   have:=this.2.1
   omega
  |int i=>trivial
  |tup xs=>
   have hp':xs.all (Ao r)=true:=hp
   have hx:∀x∈xs,Ao r x=true:=List.all_eq_true.mp hp'
   have hc:=KN (r:=r) hx
   rw [encD] at hl
   simp at hl
   exact ⟨by omega,fun x hm=>ih (hx x hm) (by have:=M_ hm;omega)⟩
  |_=>simp [Ao] at hp
end HM
namespace HM
open PySem L2
end HM
namespace HM
open PySem L2
mutual
def O2:D→Nat
 | .str s=>s.length+21
 | .int _=>21
 | .tup xs=>VP xs+2
 |_=>0
def VP:List D→Nat
 |[]=>0
 |x::xs=>O2 x+VP xs
end
mutual
def Ri:D→Bool
 | .int i=>decide (i.natAbs<100000000000000000000)
 | .tup xs=>Rj xs
 |_=>true
def Rj:List D→Bool
 |[]=>true
 |x::xs=>Ri x&&Rj xs
end
structure W(d d':D):Prop where
 l:O2 d'≤2*O2 d+1000
 i:Ri d'=true
end HM
namespace HM
open PySem L2
end HM
namespace HM
open PySem L2
section
variable{e:EN}{h:LH}
def Yy(c m:String)(f:MF)(a:M (List D))(e:EN)(x:D)(h:LH):Res D:=match HD c x h with
 |some (_,fs)=>match Ea m fs with
  |none=>(a e h).bind fun xs h2=>f (x::xs) h2
  |some _=>.bad
 |none=>.bad
@[simp] theorem jT{c m:String}{f:MF}{o:M D}{a:M (List D)}:Ew c m f o a e h=(o e h).bind fun x h1=>Yy c m f a e x h1:=rfl
theorem Ye{c:String}{i:Nat}{fs:List (String×D)}(hi:h[i]? =some (.ins c fs)):HD c (.ref i) h=some (i,fs):=by
 unfold HD
 simp only [hi,if_true]
theorem RN{c f:String}{i:Nat}{fs:List (String×D)}{d:D}(hi:h[i]? =some (.ins c fs))(hd:Ea f fs=some d):FW c f (.ref i) h=.ok d h:=by
 unfold FW
 rw [Ye hi]
 simp only [hd]
def Yx(f:MF)(h1:LH)(c:String)(xs:List D):Res D:=(f (.ref h1.length::xs) (h1++[.ins c []])).bind fun d h2=>match d with
 | .non=>.ok (.ref h1.length) h2
 |_=>.bad
@[simp] theorem jQ{c:String}{f:MF}{a:M (List D)}:Zw c f a e h=(a e h).bind fun xs h1=>Yx f h1 c xs:=rfl
def Yw(c f:String)(e:EN)(y x:D)(h2:LH):B_:=match HD c x h2 with
 |some (i,fs)=>if fs.length<1000 then .next e (h2.set i (.ins c (Jd f y fs))) else .bad
 |none=>.bad
@[simp] theorem jL{c f:String}{o v:M D}:cG c f o v e h=Ay (v e h) e fun y h1=>Ay (o e h1) e fun x h2=>Yw c f e y x h2:=rfl
@[simp] theorem jc{x:String}:Fw x e h=.exc ⟨x,[]⟩ e h:=rfl
@[simp] theorem jd{x:String}{m:M D}:Gy x m e h=Ay (m e h) e fun d h1=>.exc ⟨x,[("reason",d)]⟩ e h1:=rfl
theorem Wz{i:Nat}{kvs:List (List KD×D)}(hi:h[i]? =some (.dT kvs)):En (.ref i) h=some (i,.t kvs):=by
 unfold En
 simp only [hi]
def Yz(e:EN)(v x y:D)(h3:LH):B_:=match En x h3,keyD y with
 |some (i,.k kvs),some k=>if kvs.length<16777216 then .next e (h3.set i (.dK (Kv k v kvs))) else .bad
 |_,_=>.bad
@[simp] theorem jZ{ma mb mv:M D}:cH ma mb mv e h=Ay (mv e h) e fun v h1=>Ay (ma e h1) e fun x h2=>Ay (mb e h2) e fun y h3=>Yz e v x y h3:=rfl
def Yv(e:EN)(x y:D)(h3:LH):B_:=match En x h3,keyD y with
 |some (i,.k kvs),some k=>if (DN k kvs).isSome=true then .next e (h3.set i (.dK (KJ k kvs))) else .bad
 |_,_=>.bad
@[simp] theorem jG{ma mb:M D}:cD ma mb e h=Ay (ma e h) e fun x h2=>Ay (mb e h2) e fun y h3=>Yv e x y h3:=rfl
@[simp] theorem jH:Zt e h=.ok (.ref h.length) (h++[.dK []]):=rfl
@[simp] theorem jJ:Zu e h=.ok (.ref h.length) (h++[.dT []]):=rfl
end
end HM
namespace HM
open PySem L2
def Jc(k t:List Nat):List Nat:=YW (dig (k++32::t))
end HM
namespace HM
open PySem L2
abbrev PR:=List Nat×List Nat
def pD(p:PR):D:=.tup [.str p.1,.str p.2]
structure L_(p:PR):Prop where
 k:isKey (.str p.1)=true
 c:BZ p.2=true
 l:p.2.length≤1000000
theorem Rz{s:List Nat}(h:isKey (.str s)=true):s.length≤12:=by
 unfold isKey at h
 simp only [Bool.and_eq_true,decide_eq_true_eq] at h
 exact h.1.1.2
theorem ZJ{s:List Nat}(h:isKey (.str s)=true):∀c∈s,c<1114112:=by
 unfold isKey at h
 simp only [Bool.and_eq_true,decide_eq_true_eq] at h
 obtain ⟨⟨_,h0⟩,h1⟩:=h
 intro c hc
 cases s with
 |nil=>cases hc
 |cons a s=>
  simp at h0
  rcases List.mem_cons.mp hc with rfl|hc
  ·omega
  ·have:=List.all_eq_true.mp h1 c hc
   have hd:∀c∈Hw,c<1114112:=by decide+kernel
   exact hd c (of_decide_eq_true this)
theorem Vx{s:List Nat}(h:BZ s=true):∀c∈s,c<1114112:=fun c hc=>by
 have:=N7.mp (List.all_eq_true.mp h c hc)
 unfold LC at this
 omega
theorem L_.ok{p:PR}(g:L_ p):Gu p.1∧Gu p.2:=by
 have:=Rz g.k
 exact ⟨⟨by omega,ZJ g.k⟩,g.l,Vx g.c⟩
def Nv(p:PR):List KD×D:=([Sum.inr p.1,Sum.inr p.2],.str (Jc p.1 p.2))
def pK(a b:List Nat):List KD:=[Sum.inr a,Sum.inr b]
theorem Ra{a b:List Nat}:∀ps:List PR,DN (pK a b) (ps.map Nv)=if (a,b)∈ps then some (.str (Jc a b)) else none
 |[]=>rfl
 |p::ps=>by
  rw [List.map_cons]
  unfold Nv
  unfold DN
  have ih:=Ra (a:=a) (b:=b) ps
  by_cases q:p=(a,b)
  ·subst q
   rw [if_pos List.mem_cons_self]
   exact if_pos rfl
  ·have:¬[Sum.inr p.1,Sum.inr p.2]=pK a b:=fun z=>q (by
    unfold pK at z
    simp at z
    exact Prod.ext z.1 z.2)
   rw [if_neg this]
   have e:((a,b)∈p::ps)↔(a,b)∈ps:=by
    rw [List.mem_cons]
    exact ⟨fun z=>z.resolve_left fun y=>q y.symm,.inr⟩
   simp only [e]
   exact ih
structure Off(h:LH)(o m:Nat)(ps:List PR):Prop where
 o:h[o]? =some (.ins "Seals" [("_marks",.ref m)])
 m:h[m]? =some (.dT (ps.map Nv))
 g:∀p∈ps,L_ p
theorem Off.kp{h g:LH}{o m:Nat}{ps:List PR}(w:Off h o m ps)(k:Kp h g):Off g o m ps:=⟨k.get w.o,k.get w.m,w.g⟩
theorem Off.set{h:LH}{o m s:Nat}{x:LO}{ps:List PR}(w:Off h o m ps)(ho:o≠s)(hm:m≠s):Off (h.set s x) o m ps:=⟨by rw [List.getElem?_set_ne ho.symm];exact w.o,by rw [List.getElem?_set_ne hm.symm];exact w.m,w.g⟩
theorem Rb{m:D}:Ea "_marks" [("_marks",m)]=some m:=by simp [Ea]
theorem Rk{h:LH}{o m:Nat}{ps:List PR}(w:Off h o m ps){a b:List Nat}:Ka [.str a,.str b] (.ref m) h=some (if (a,b)∈ps then some (.str (Jc a b)) else none):=by
 unfold Ka
 simp only [Wz w.m,Nu,keyD]
 rw [←Ra]
 rfl
def DP:D→Bool
 | .str _=>true
 |_=>false
def JQ(ps:List PR):D→D→D→Bool
 | .str a,.str b,.str c=>decide ((a,b)∈ps)&&decide (Jc a b=c)
 |_,_,_=>false
theorem lE{h:LH}{o m:Nat}{ps:List PR}{x y z:D}{t1 t2 t3:BT}(w:Off h o m ps)(h1:BX x h=some t1)(h2:BX y h=some t2)(h3:BX z h=some t3):
  L.RK [.ref o,x,y,z] h=.ok (.bl (JQ ps x y z)) h:=by
 unfold L.RK
 rw [Eb (by rfl)]
 unfold L.Qq
 by_cases c:DP x&&DP y&&DP z
 ·simp only [Bool.and_eq_true] at c
  obtain ⟨⟨c1,c2⟩,c3⟩:=c
  cases x with
  |str a=>
   cases y with
   |str b=>
    cases z with
    |str c=>
     have e1:∀_:Unit,Ny true (Ab (Aa 1) (Ab (Aa 2) Ag)) (Du (FW "Seals" "_marks") (Aa 0)) [some (.ref o),some (.str a),some (.str b),some (.str c)] h=.ok (.bl (!decide ((a,b)∈ps))) h:=fun _=>by
      unfold Ny
      simp-implicitDefEqProofs [RN w.o Rb,Rk w]
      by_cases q:(a,b)∈ps<;>simp [q]
     simp only [Bf]
     simp-implicitDefEqProofs [BX,isB,Br,e1 ()]
     by_cases q:(a,b)∈ps
     ·simp-implicitDefEqProofs [q,R8,RN w.o Rb,Rk w,Qv,JQ]
     ·simp-implicitDefEqProofs [q,JQ]
    |_=>simp [DP] at c3
   |_=>simp [DP] at c2
  |_=>simp [DP] at c1
 ·have hv:JQ ps x y z=false:=by
   cases x<;>cases y<;>cases z<;>first|rfl|(simp [DP] at c)
  rw [hv,Bf]
  have u:∀{d:D} {t:BT},BX d h=some t→DP d=false→isB t .str=false:=fun {d t} ht hs=>by
   cases d<;>simp [BX,DP] at ht hs
   all_goals first|(subst ht;rfl)|skip
   split at ht<;>simp at ht<;>first|(subst ht;rfl)|skip
  have v:∀{d:D} {t:BT},BX d h=some t→DP d=true→isB t .str=true:=fun {d t} ht hs=>by
   cases d<;>simp [BX,DP] at ht hs
   subst ht;rfl
  cases c1:DP x
  ·simp-implicitDefEqProofs [h1,u h1 c1,Br]
  ·cases c2:DP y
   ·simp-implicitDefEqProofs [h1,h2,v h1 c1,u h2 c2,Br]
   ·cases c3:DP z
    ·simp-implicitDefEqProofs [h1,h2,h3,v h1 c1,v h2 c2,u h3 c3,Br]
    ·simp [c1,c2,c3] at c
end HM
namespace HM
open PySem L2
structure PL(r:Nat)(d:D):Prop where
 p:Ao r d=true
 l:(encD d).length≤1000000
theorem PL.len{r:Nat}{d:D}(c:PL r d):∀s,d=.str s→s.length≤1000000:=by
 rintro s rfl
 have:=c.l
 rw [G9] at this
 simp at this
 omega
theorem PL.ty{r:Nat}{d:D}{h:LH}(c:PL r d):∃t,BX d h=some t:=by
 have:=c.p
 cases d with
 |str s=>exact ⟨_,rfl⟩
 |int s=>exact ⟨_,rfl⟩
 |tup s=>exact ⟨_,rfl⟩
 |_=>cases r<;>simp [Ao] at this
theorem PL.items{r:Nat}{xs:List D}(c:PL (r+1) (.tup xs)):∀x∈xs,PL r x:=by
 intro x hx
 have hp:=c.p
 have hp':xs.all (Ao r)=true:=hp
 refine ⟨List.all_eq_true.mp hp' x hx,?_⟩
 have:=c.l
 rw [encD] at this
 have:=M_ hx
 simp at*
 omega
theorem PL.pos{r:Nat}{xs:List D}(c:PL r (.tup xs)):∃r',r=r'+1:=by
 cases r with
 |zero=>have:=c.p;simp [Ao] at this
 |succ r=>exact ⟨r,rfl⟩
theorem PL.cnt{r:Nat}{xs:List D}(c:PL (r+1) (.tup xs)):xs.length≤1000000:=by
 have:=KN (r:=r) (xs:=xs) (fun x hx=>(c.items x hx).p)
 have:=c.l
 rw [encD] at this
 simp at*
 omega
theorem PL.all{r:Nat}{s:List Nat}(c:PL r (.str s)):BZ s=true:=by
 have:=c.p
 cases r<;>simpa [Ao] using this
def Yo(d:D):Bool:=match d with
 | .tup [k,m]=>isKey k&&(Rq m&&decide ((cd m).length≤40))
 |_=>false
def R3(d:D):List Nat:=match d with
 | .tup (k::_)=>cd k
 |_=>[]
def Qp:List Nat→List D→Bool
 |_,[]=>true
 |l,x::xs=>(Yo x&&decide (l<R3 x))&&Qp (R3 x) xs
def Vz(d:D):Bool:=match d with
 | .tup xs=>decide ((xs.length:Int)≤32)&&Qp [] xs
 |_=>false
def Yn(d:D):Bool:=match d with
 | .tup [a,b]=>Rq a&&Vz b
 |_=>false
theorem PL.mono{r r':Nat}{d:D}(hr:r≤r')(c:PL r d):PL r' d:=⟨aZ hr c.p,c.l⟩
def TX(d:D):Option D:=match Q8 d with
 |some v=>if Yn v then some v else none
 |none=>none
end HM
namespace HM
open PySem L2
def Io(t:List Nat)(xs:List PR):D:=.tup [.str t,.tup (xs.map pD)]
structure GS(t:List Nat)(xs:List PR):Prop where
 tc:BZ t=true
 tl:t.length≤10000
 l:xs.length≤32
 k:∀p∈xs,isKey (.str p.1)=true
 c:∀p∈xs,BZ p.2=true
 m:∀p∈xs,p.2.length≤40
 a:GZ (xs.map (·.1))=true
theorem ZG{s:List Nat}(h:isKey (.str s)=true):BZ s=true:=by
 unfold isKey at h
 simp only [Bool.and_eq_true,decide_eq_true_eq] at h
 obtain ⟨⟨_,h0⟩,h1⟩:=h
 refine List.all_eq_true.mpr fun c hc=>?_
 cases s with
 |nil=>cases hc
 |cons a s=>
  simp at h0
  rcases List.mem_cons.mp hc with rfl|hc
  ·subst h0;decide
  ·have:=List.all_eq_true.mp h1 c hc
   have hd:∀c∈Hw,Ko c=true:=by decide+kernel
   exact hd c (of_decide_eq_true this)
theorem Xb{p:PR}(h1:p.1.length≤12)(h2:p.2.length≤40):(encD (pD p)).length≤100:=by
 unfold pD
 rw [encD]
 simp only [encL,encD]
 have a:=Jj (n:=p.1.length) (by omega)
 have b:=Jj (n:=p.2.length) (by omega)
 simp
 omega
theorem RJ:∀{xs:List PR},(∀p∈xs,p.1.length≤12∧p.2.length≤40)→(encL (xs.map pD)).length≤100*xs.length
 |[],_=>by simp [encL]
 |p::xs,h=>by
  have a:=RJ fun q hq=>h q (List.mem_cons_of_mem _ hq)
  have b:=Xb (h p List.mem_cons_self).1 (h p List.mem_cons_self).2
  rw [List.map_cons]
  simp only [encL]
  simp
  omega
theorem GS.plain{t:List Nat}{xs:List PR}(g:GS t xs):Ao 8 (Io t xs)=true:=by
 unfold Io
 simp only [Ao,List.all_cons,List.all_nil,Bool.and_true,Bool.and_eq_true]
 refine ⟨g.tc,?_⟩
 rw [List.all_map,List.all_eq_true]
 intro p hp
 show Ao 6 (pD p)=true
 unfold pD
 simp only [Ao,List.all_cons,List.all_nil,Bool.and_true,Bool.and_eq_true]
 exact ⟨ZG (g.k p hp),g.c p hp⟩
theorem GS.len{t:List Nat}{xs:List PR}(g:GS t xs):(encD (Io t xs)).length≤20000:=by
 have a:=RJ (xs:=xs) fun p hp=>⟨Rz (g.k p hp),g.m p hp⟩
 have b:=Jj (n:=t.length) (by have:=g.tl;omega)
 have:=g.l
 have:=g.tl
 unfold Io
 rw [encD]
 simp only [encL,encD]
 simp
 omega
end HM
namespace HM
open PySem L2
def mw(p w:List Nat):Bool:=Sy (FQ 47 [] w) (FQ 47 [] p)
end HM
namespace HM
open PySem L2
def fJ(d:D):D:=match d with
 | .tup xs=>.tup xs.tail
 |_=>.non
theorem Uv{d:D}{h:LH}{r:Nat}(hp:Ao r d=true)(hr:r≤20)(hl:(encD d).length≤16000000):L.Gg [d,d] h=.ok (.bl true) h:=by
 have:=dU r 24 (by omega) d d h hp hp hl
 rw [(Xd r d d hp hp).mpr rfl] at this
 exact this
theorem dR{h:LH}:L.Gg [.non,.non] h=.ok (.bl true) h:=by
 show L.Ek (23+1) 0 [.non,.non] h=_
 unfold L.Ek
 rw [Eb (by rfl)]
 unfold L.Jz
 simp-implicitDefEqProofs [Bf,BX,isB,Br,KC,EY]
end HM
namespace HM
open PySem L2
theorem Bj.kp{g g':LH}{s:Nat}(w:Bj g s)(k:Kp g g'):Bj g' s:=by
 obtain ⟨a,b,e⟩:=w
 exact ⟨a,b,k.get e⟩
theorem Bj.set{g:LH}{s i:Nat}{o:LO}(w:Bj g s)(hi:i≠s):Bj (g.set i o) s:=by
 obtain ⟨a,b,e⟩:=w
 exact ⟨a,b,by rw [List.getElem?_set_ne hi];exact e⟩
def Tj(t k:List Nat):PR:=(k,Jc k t)
structure Fm(m:Nat)(g g':LH):Prop where
 le:g.length≤g'.length
 keep:∀i,i<g.length→i≠m→i≠0→g'[i]? =g[i]?
 st:Bj g' 0
theorem Fm.get{m i:Nat}{g g':LH}{o:LO}(f:Fm m g g')(h1:i≠m)(h0:i≠0)(e:g[i]? =some o):g'[i]? =some o:=(f.keep i (CK e) h1 h0).trans e
end HM
namespace HM
open PySem L2
end HM
namespace HM
open PySem L2
end HM
namespace HM
open PySem L2
abbrev NR:=List Nat×D
def TF(x:NR):D:=.tup [.str x.1,x.2]
structure SS where
 wait:List NR
 seen:List (List Nat)
 out:Option (List D)
def outD:Option (List D)→D
 |none=>.non
 |some ds=>.tup ds
def d_(sh:D)(p:List Nat)(W V:Nat)(out:Option (List D)):List (String×D):=[("shelf",sh),("path",.str p),("waiting",.ref W),("visited",.ref V),("outcome",outD out)]
structure GX(h:LH)(o:Nat)(sh:D)(p:List Nat)(W V:Nat)(s:SS):Prop where
 o:h[o]? =some (.ins "Search" (d_ sh p W V s.out))
 w:h[W]? =some (.lst (s.wait.map TF))
 v:h[V]? =some (.lst (s.seen.map D.str))
 ne:W≠V
theorem GX.kp{h g:LH}{o W V:Nat}{sh:D}{p:List Nat}{s:SS}(a:GX h o sh p W V s)(k:Kp h g):GX g o sh p W V s:=⟨k.get a.o,k.get a.w,k.get a.v,a.ne⟩
def QM(s:SS):Option NR:=if s.out.isSome||decide (32≤s.seen.length) then none else s.wait.find? fun x=> !decide (x.1∈s.seen)
section
variable{h:LH}{o W V:Nat}{sh:D}{p:List Nat}{s:SS}
def Ub(s:SS):D:=if s.out.isSome=false∧QM s=none then .tup [S "none"] else outD s.out
end
structure Fo(S:List Nat)(h g:LH):Prop where
 le:h.length≤g.length
 k:∀i,i<h.length→i ∉ S→g[i]? =h[i]?
theorem Fo.refl(S:List Nat)(h:LH):Fo S h h:=⟨Nat.le_refl _,fun _ _ _=>rfl⟩
theorem Fo.trans{S:List Nat}{a b c:LH}(x:Fo S a b)(y:Fo S b c):Fo S a c:=⟨Nat.le_trans x.le y.le,fun i hi hs=>(y.k i (Nat.lt_of_lt_of_le hi x.le) hs).trans (x.k i hi hs)⟩
theorem Fo.kp{S:List Nat}{a b:LH}(x:Kp a b):Fo S a b:=⟨x.le,fun i hi _=>x.keep i hi⟩
theorem Fo.set{S:List Nat}{a b:LH}{i:Nat}{o:LO}(x:Fo S a b)(hi:i∈S∨a.length≤i):Fo S a (b.set i o):=⟨by simpa using x.le,fun j hj hs=>by
 have:i≠j:=by
  rintro rfl
  rcases hi with hi|hi
  ·exact hs hi
  ·omega
 rw [List.getElem?_set_ne this]
 exact x.k j hj hs⟩
theorem Fo.push{S:List Nat}{a b:LH}{o:LO}(x:Fo S a b):Fo S a (b++[o]):=x.trans (Fo.kp (Kp.push _ _))
theorem Fo.get{S:List Nat}{a b:LH}(x:Fo S a b){i:Nat}{o:LO}(hi:i ∉ S)(e:a[i]? =some o):b[i]? =some o:=(x.k i (CK e) hi).trans e
theorem Fo.mono{S T:List Nat}{a b:LH}(x:Fo S a b)(h:∀i∈S,i∈T):Fo T a b:=⟨x.le,fun i hi hs=>x.k i hi fun z=>hs (h i z)⟩
def Wf(p:List Nat)(g:D):Bool:=match g with
 | .tup [_,_,.tup ps,_]=>ps.any fun d=>mw p (cd d)
 |_=>false
def Uc(g:D):D:=match g with
 | .tup [_,r,_,_]=>r
 |_=>.non
def ZW(g:D):Bool:=match g with
 | .tup [_,_,_,.int l]=>decide (l=1)
 |_=>false
def fG(p:List Nat)(rs:List D)(seen:List (List Nat))(g:D):Bool:=Wf p g&&(!decide (DG g∈seen)&&(rs.any fun r=>decide (DG r=DG g)))
def FP(p:List Nat)(rs:List D)(seen:List (List Nat)):List D→List NR×Bool
 |[]=>([],false)
 |g::gs=>if fG p rs seen g then (if ZW g then ([(DG g,Uc g)],true) else ((DG g,Uc g)::(FP p rs seen gs).1,(FP p rs seen gs).2)) else FP p rs seen gs
def YK(p:List Nat)(rs gs Fb:List D)(nm:List Nat)(s:SS):SS:=match gs.find? (fun r=>decide (DG r=p)) with
 |some r=>match fJ r with
  | .tup [l,g]=>⟨s.wait,s.seen++[nm],some [S "found",.str nm,l,g]⟩
  |_=>s
 |none=>⟨(FP p rs (s.seen++[nm]) Fb).1++((if (FP p rs (s.seen++[nm]) Fb).2 then [] else s.wait).filter fun x=> !decide (x.1∈s.seen++[nm])),s.seen++[nm],s.out⟩
section
variable{h:LH}{o W V:Nat}{sh:D}{p:List Nat}{s:SS}
structure iT(h0:LH)(o V W A:Nat)(sh:D)(p nm:List Nat)(s:SS)(rl d:D)(Fb:List D)(rs:List D)(j:Nat)(e:EN)(g:LH):Prop where
 ev:∃v5 v6 v7 v8,e=[some (.ref o),some d,some (.tup [.str nm,rl]),some .non,some (.ref A),v5,v6,v7,v8,none]
 fo:Fo [o,A] h0 g
 se:GX g o sh p W V ⟨s.wait,s.seen++[nm],s.out⟩
 ad:∃acc,g[A]? =some (.lst (acc.map TF))∧acc.length≤j∧acc++(FP p rs (s.seen++[nm]) (Fb.drop j)).1=(FP p rs (s.seen++[nm]) Fb).1∧(FP p rs (s.seen++[nm]) (Fb.drop j)).2=(FP p rs (s.seen++[nm]) Fb).2
theorem GX.set(a:GX h o sh p W V s){i:Nat}{x:LO}(h1:i≠o)(h2:i≠W)(h3:i≠V):GX (h.set i x) o sh p W V s:=
 ⟨by rw [List.getElem?_set_ne h1];exact a.o,by rw [List.getElem?_set_ne h2];exact a.w,by rw [List.getElem?_set_ne h3];exact a.v,a.ne⟩
end
end HM
namespace HM
open PySem L2
def UW(p:List Nat)(rs:List D)(d:D)(s:SS):SS:=match d with
 | .tup [_,.str nm,_,_,.tup gs,.tup Fb]=>YK p rs gs Fb nm s
 |_=>s
def Ug(p:List Nat)(rs:List D)(dm:List Nat→Option D):Nat→SS→D
 |0,_=>.non
 |n+1,s=>if EY (Ub s)=true then (match QM s with
  |none=>.non
  |some x=>match dm x.1 with
   |none=>.tup [S "missing",.str x.1]
   |some d=>Ug p rs dm n (UW p rs d s)) else Ub s
def Qa(nm:List Nat)(d:D):Prop:=isList d=true∧∃v e g r,d=.tup [.str Ci,.str nm,v,e,g,r]
theorem Qa.cl{nm:List Nat}{d:D}{h:LH}(q:Qa nm d):Cl h 6 d:=(W7 (by unfold Kd;rw [q.1];simp)).cl
structure iU(h0:LH)(o V:Nat)(ch sh:D)(Dc:Nat)(p:List Nat)(rs:List D)(dm:List Nat→Option D)(res:D)(e:EN)(h:LH):Prop where
 ev:∃v,e=[some ch,some sh,some (.ref Dc),some (.str p),some (.ref o),v]
 k:Kp h0 h
 st:∃W s n,GX h o sh p W V s∧Ug p rs dm n s=res∧34≤n+s.seen.length∧s.seen.length≤32∧s.wait.length≤1+32*s.seen.length
end HM
namespace HM
open PySem L2
section
variable(path:List Nat)(rs:List D)(dm:List Nat→D)
def aA(s:SS):SS:=match QM s with
 |some x=>UW path rs (dm x.1) s
 |none=>s
def PS(r:D):Nat→SS
 |0=>⟨[(Ci,r)],[],none⟩
 |n+1=>aA path rs dm (PS r n)
end
structure SI(names:List (List Nat))(s:SS):Prop where
 w:∀x∈s.wait,x.1∈names
 n:s.seen.Nodup
 m:∀x∈s.seen,x∈names
section
variable{path:List Nat}{rs:List D}{names:List (List Nat)}{dm:List Nat→D}{role:D}
structure PI(names:List (List Nat))(rd:List NR)(i:Nat)(t:SS):Prop where
 w:∀x∈t.wait,x.1∈names∧CJ x.2=true
 s:t.seen=(rd.take i).map (·.1)
 l:t.wait.length≤1+32*i
end
theorem dW{r n:Nat}{d:D}{h:LH}(p:PE r n d)(hr:r≤20)(hn:n≤16000000):L.Gg [d,d] h=.ok (.bl true) h:=Uv p.p hr (by have:=p.l;omega)
section
variable{path:List Nat}{rs:List D}{names:List (List Nat)}{dm:List Nat→D}{role:D}
end
end HM
namespace HM
open PySem L2
end HM
namespace HM
open PySem L2
structure At(g0 h:LH)(i:Nat)(c:String)(fs:List (String×D)):Prop where
 k:Kp g0 h
 l:g0.length≤i
 o:h[i]? =some (.ins c fs)
theorem At.new(g:LH)(c:String):At g (g++[.ins c []]) g.length c []:=⟨Kp.push _ _,Nat.le_refl _,by simp⟩
theorem At.kp{g0 h h':LH}{i:Nat}{c:String}{fs:List (String×D)}(a:At g0 h i c fs)(K:Kp h h'):At g0 h' i c fs:=⟨a.k.trans K,a.l,K.get a.o⟩
theorem At.push{g0 h:LH}{i:Nat}{c:String}{fs:List (String×D)}(a:At g0 h i c fs)(o:LO):At g0 (h++[o]) i c fs:=a.kp (Kp.push _ _)
def Mu(v x roles:D):D:=.tup [.str CV,v,x,roles]
end HM
namespace HM
open PySem L2
end HM
namespace HM
open PySem L2
end HM
namespace HM
open PySem L2
abbrev gD(o dr pb kc ks sn:Nat)(nw:D):List (String×D):=[("office",.ref o),("draft",.ref dr),("published",.ref pb),("known_charters",.ref kc),("known_stamps",.ref ks),("snapshots",.ref sn),("newest",nw)]
end HM
namespace HM
open PySem L2
structure MK(h:LH)(w o dr pb kc ks sn:Nat)(kvs:List (KD×D))(docs:List D):Prop where
 hw:h[w]? =some (.ins "Workshop" (gD o dr pb kc ks sn .non))
 hp:h[pb]? =some (.dK kvs)
 hc:h[kc]? =some (.lst docs)
 hs:h[ks]? =some (.lst [])
 hn:h[sn]? =some (.lst [])
theorem MK.kp{h g:LH}{w o dr pb kc ks sn:Nat}{kvs:List (KD×D)}{docs:List D}(s:MK h w o dr pb kc ks sn kvs docs)(k:Kp h g):MK g w o dr pb kc ks sn kvs docs:=⟨k.get s.hw,k.get s.hp,k.get s.hc,k.get s.hs,k.get s.hn⟩
def Z_:List Nat:=[49,46,99,104,97,114,116,101,114]
theorem S8{x ro:D}:S_ (Mu (.int 1) x ro)=Z_:=by
 unfold Mu
 rw [aD]
 have:¬CV=Cr:=by decide+kernel
 rw [if_neg this]
 decide+kernel
end HM
namespace HM
open PySem L2
section
variable{h:LH}{w o dr pb kc ks sn:Nat}{kvs:List (KD×D)}{docs:List D}
end
end HM
namespace HM
open PySem L2
def Oh(d:D):Bool:=match d with
 | .tup rs=>decide (rs.length=4)&&rs.all CJ
 |_=>false
end HM
namespace HM
open PySem L2
end HM
namespace HM
open PySem L2
structure Dr(h:LH)(dr pg pa fl:Nat)(Kg:List (KD×D)):Prop where
 d:h[dr]? =some (.ins "Draft" [("pages",.ref pg)])
 p:h[pg]? =some (.dK [(.inr Ci,.ref pa)])
 q:∃fs,h[pa]? =some (.ins "Page" fs)∧Ea "files" fs=some (.ref fl)∧Ea "put" fs=none
 f:h[fl]? =some (.dK Kg)
theorem Dr.of{h g:LH}{dr pg pa fl:Nat}{Kg:List (KD×D)}(a:Dr h dr pg pa fl Kg)(e1:g[dr]? =h[dr]?)(e2:g[pg]? =h[pg]?)(e3:g[pa]? =h[pa]?)(e4:g[fl]? =h[fl]?):Dr g dr pg pa fl Kg:=
 ⟨e1.trans a.d,e2.trans a.p,by obtain ⟨fs,x,y⟩:=a.q;exact ⟨fs,e3.trans x,y⟩,e4.trans a.f⟩
end HM
namespace HM
open PySem L2
structure Rs(ro:D):Prop where
 ex:∃r0 r1 r2 r3,ro=.tup [r0,r1,r2,r3]∧CJ r0=true∧CJ r1=true∧CJ r2=true∧CJ r3=true
theorem Rs.b{ro:D}(q:Rs ro):Oh ro=true:=by
 obtain ⟨r0,r1,r2,r3,rfl,h0,h1,h2,h3⟩:=q.ex
 show (decide (4=4)&&[r0,r1,r2,r3].all CJ)=true
 simp [h0,h1,h2,h3]
theorem Rs.of{ro:D}(h:Oh ro=true):Rs ro:=by
 unfold Oh at h
 split at h
 ·rename_i rs
  simp only [Bool.and_eq_true,decide_eq_true_eq,List.all_eq_true] at h
  obtain ⟨h1,h2⟩:=h
  match rs,h1 with
  |[a,b,c,d],_=>exact ⟨a,b,c,d,rfl,h2 a (by simp),h2 b (by simp),h2 c (by simp),h2 d (by simp)⟩
 ·cases h
end HM
namespace HM
open PySem L2
def kd(v:D):List Nat:=match v with
 | .tup (.str k::_)=>k
 |_=>[]
def bT(k:List Nat)(d:D):Option D:=match Q8 d with
 |some v=>if Kd v&&decide (kd v=k) then some v else none
 |none=>none
def Ue(k:List Nat)(d:D):Option D:=match TX d with
 |some (.tup (.str t::_))=>bT k (.str t)
 |_=>none
end HM
namespace HM
open PySem L2
def trF(o tx dc li:Nat)(Dg:D):List (String×D):=[("office",.ref o),("texts",.ref tx),("documents",.ref dc),("belongs",Dg),("lists",.ref li)]
structure Tr(h:LH)(t o tx dc li:Nat)(texts docs ls:List (KD×D))(Dg:D):Prop where
 ht:h[t]? =some (.ins "Trusted" (trF o tx dc li Dg))
 hx:h[tx]? =some (.dK texts)
 hd:h[dc]? =some (.dK docs)
 hl:h[li]? =some (.dK ls)
 ne:tx≠dc∧tx≠li∧dc≠li
theorem Tr.kp{h g:LH}{t o tx dc li:Nat}{texts docs ls:List (KD×D)}{Dg:D}(s:Tr h t o tx dc li texts docs ls Dg)(k:Kp h g):Tr g t o tx dc li texts docs ls Dg:=⟨k.get s.ht,k.get s.hx,k.get s.hd,k.get s.hl,s.ne⟩
section
variable{g:LH}{o m:Nat}{ps:List PR}
end
end HM
namespace HM
open PySem L2
section
variable{h:LH}{t o tx dc li:Nat}{texts docs ls:List (KD×D)}{Dg:D}(s:Tr h t o tx dc li texts docs ls Dg)
include s
end
end HM
namespace HM
open PySem L2
def Og(th:Int)(ts:List (List Nat)):D:=.tup [.int th,.tup (ts.map D.str)]
structure Ro(th:Int)(ts:List (List Nat)):Prop where
 k:∀k∈ts,isKey (.str k)=true
 a:GZ ts=true
 l0:1≤ts.length
 l1:ts.length≤16
 t0:1≤th
 t1:th≤ts.length
theorem Ro.b{th:Int}{ts:List (List Nat)}(r:Ro th ts):CJ (Og th ts)=true:=by
 have mc:(ts.map D.str).map cd=ts:=by
  rw [List.map_map]
  conv=>rhs;rw [←List.map_id ts]
  exact List.map_congr_left fun x _=>rfl
 show (decide ((ts.map D.str).length≤16)&&((ts.map D.str).all isKey&&(GZ ((ts.map D.str).map cd)&&isInt 1 (ts.map D.str).length (.int th))))=true
 rw [mc,r.a,List.length_map]
 simp only [Bool.and_eq_true,decide_eq_true_eq,Bool.true_and]
 refine ⟨r.l1,?_,Nt r.t0 r.t1⟩
 rw [List.all_eq_true]
 intro y hy
 obtain ⟨x,hx,rfl⟩:=List.mem_map.mp hy
 exact r.k x hx
end HM
namespace HM
open PySem L2
def Mz(E:List (List Nat))(t:List Nat)(ps xs:List PR):Nat:=(xs.filter (fun p=>decide (p.1∈E)&&JQ ps (.str p.1) (.str t) (.str p.2))).length
structure Cm(s m:Nat)(h g:LH):Prop where
 le:h.length≤g.length
 keep:∀i,i<h.length→i≠s→i≠m→g[i]? =h[i]?
theorem Cm.refl{s m:Nat}(h:LH):Cm s m h h:=⟨Nat.le_refl _,fun _ _ _ _=>rfl⟩
theorem Cm.trans{s m:Nat}{a b c:LH}(x:Cm s m a b)(y:Cm s m b c):Cm s m a c:=⟨Nat.le_trans x.le y.le,fun i hi h1 h2=>(y.keep i (Nat.lt_of_lt_of_le hi x.le) h1 h2).trans (x.keep i hi h1 h2)⟩
theorem Cm.kp{s m:Nat}{h g:LH}(x:Kp h g):Cm s m h g:=⟨x.le,fun i hi _ _=>x.keep i hi⟩
theorem Cm.get{s m i:Nat}{h g:LH}{o:LO}(x:Cm s m h g)(h1:i≠s)(h2:i≠m)(e:h[i]? =some o):g[i]? =some o:=(x.keep i (CK e) h1 h2).trans e
structure Qg(s o m P R:Nat)(t:List Nat)(E ts:List (List Nat))(h0:LH)(j:Nat)(g:LH)(ps xs:List PR)(good:Int):Prop where
 st:Bj g s
 of:Off g o m ps
 gP:g[P]? =some (.lst (xs.map pD))
 gR:g[R]? =some (.lst (ts.map D.str))
 f:Cm s m h0 g
 sub:(xs.map (·.1)).Sublist (ts.take j)
 c:∀p∈xs,BZ p.2=true∧p.2.length≤40
 own:∀p∈ps,p.2=t→p.1∈ts.take j
 ln:ps.length≤j
 cnt:good=(Mz E t ps xs:Nat)
section
variable{s o m P R:Nat}{t:List Nat}{E ts:List (List Nat)}{h0 g:LH}{j:Nat}{ps xs:List PR}{good:Int}
theorem fH{k:List Nat}(hk:ts[j]? =some k):ts.take (j+1)=ts.take j++[k]:=by
 rw [List.take_add_one,hk]
 rfl
theorem aG{k:List Nat}(hk:ts[j]? =some k)(nd:ts.Nodup)(h:k∈ts.take j):False:=by
 have q:=nd.sublist (List.take_sublist (j+1) ts)
 rw [fH hk,List.nodup_append] at q
 exact q.2.2 k h k List.mem_cons_self rfl
theorem Qg.fresh{k:List Nat}(w:Qg s o m P R t E ts h0 j g ps xs good)(hk:ts[j]? =some k)(nd:ts.Nodup):(k,t) ∉ ps:=by
 intro hp
 have i1:=w.own _ hp rfl
 exact aG hk nd i1
end
end HM
namespace HM
open PySem L2
section
variable{s o m P R:Nat}{t:List Nat}{E ts:List (List Nat)}{h0 g:LH}{j:Nat}{ps xs:List PR}{good th many:Int}{k:List Nat}
end
end HM
namespace HM
open PySem L2
structure iW(s o m:Nat)(t:List Nat)(E:List (List Nat))(h g:LH)(G:Nat)(ps xs:List PR)(good:Int):Prop where
 r:g[G]? =some (.lst [.tup (xs.map pD),.int good])
 st:Bj g s
 of:Off g o m ps
 f:Cm s m h g
 k:∀p∈xs,isKey (.str p.1)=true
 a:GZ (xs.map (·.1))=true
 c:∀p∈xs,BZ p.2=true∧p.2.length≤40
 l:xs.length≤25
 cnt:good=(Mz E t ps xs:Nat)
 gn:h.length≤G
 pl:ps.length≤30
end HM
namespace HM
open PySem L2
structure R4(ro:D)(t0:Int)(E0:List (List Nat)):Prop where
 ex:∃r1 r2 r3,ro=.tup [Og t0 E0,r1,r2,r3]∧CJ r1=true∧CJ r2=true∧CJ r3=true
 r:Ro t0 E0
 l:E0.length≤5
theorem R4.bad{ro:D}{t0:Int}{E0:List (List Nat)}(q:R4 ro t0 E0){x:Int}(x0:0≤x)(x1:x≤1000000000000):PE 4 2000 (Mu (.int 0) (.int x) ro):=by
 obtain ⟨r1,r2,r3,rfl,h1,h2,h3⟩:=q.ex
 have hr:∀y∈[Og t0 E0,r1,r2,r3],PE 2 274 y:=fun y hy=>by
  simp only [List.mem_cons,List.not_mem_nil,or_false] at hy
  rcases hy with rfl|rfl|rfl|rfl
  ·exact K9 q.r.b
  ·exact K9 h1
  ·exact K9 h2
  ·exact K9 h3
 exact (aW (ZP (k:=CV) 3 (Ym CV) ZC.1 k_all.1) (Nm (lo:=0) (hi:=1000000000000) 3 (Nt (by decide) (by decide)) (by decide) (by decide)) (Nm (lo:=0) (hi:=1000000000000) 3 (Nt x0 x1) (by decide) (by decide)) (Tt (k:=4) (n:=274) (r:=2) (by simp) hr)).mono (by decide) (by decide)
structure FI(o m:Nat)(ps:List PR)(c d:D)(due:List Nat):Prop where
 ch:Ib c=true
 sl:∀s,d=.str s→s.length≤1000000
 ty:(∃s,d=.str s)∨d=.non∨d=.int 5
 w:(due=[102,111,114,109]∧Ue CV d=none)∨(∃a b ro t0 E0 t xs,c=.tup [.str CV,a,b,ro]∧R4 ro t0 E0∧TX d=some (Io t xs)∧Ue CV d=some c∧xs.length≤25∧
  due=if t0≤((Mz E0 t ps xs:Nat):Int) then [] else [115,101,97,108,115])
end HM
namespace HM
open PySem L2
theorem same_str{s:List Nat}(ha:BZ s=true)(hl:s.length≤1000000){h:LH}:L.Gg [.str s,.str s] h=.ok (.bl true) h:=
 Uv (r:=0) (by simpa [Ao] using ha) (by decide) (by
  have:=Jj (n:=s.length) (by omega)
  rw [G9]
  simp
  omega)
section
variable{h:LH}{o:Nat}{d:D}
end
end HM
namespace HM
open PySem L2
section
variable{h:LH}{t o tx dc li:Nat}{texts docs ls:List (KD×D)}{Dg:D}
end
end HM
namespace HM
open PySem L2
end HM
namespace HM
open PySem L2
structure Cq where
 c:D
 zc:List Nat
 st:Option (D×List Nat)
 sh:Option (D×List Nat)
 Dg:D
 ls:List (KD×D)
structure Bo where
 t:Nat
 o:Nat
 tx:Nat
 dc:Nat
 li:Nat
def Ks(k:List Nat)(o:Option D):List (KD×D):=match o with
 |none=>[]
 |some v=>[(.inr k,v)]
def W8(S:Cq):List (KD×D):=(.inr CV,S.c)::(Ks Cr (S.st.map (·.1))++Ks Es (S.sh.map (·.1)))
def fU(S:Cq):List (KD×D):=(.inr CV,.str S.zc)::(Ks Cr (S.st.map fun p=>.str p.2)++Ks Es (S.sh.map fun p=>.str p.2))
def I_(h:LH)(F:Bo)(S:Cq):Prop:=Tr h F.t F.o F.tx F.dc F.li (fU S) (W8 S) S.ls S.Dg
structure Cy(F F':Bo)(h g:LH):Prop where
 le:h.length≤g.length
 keep:∀i,i<h.length→i≠F.t→i≠F.tx→i≠F.dc→i≠F.li→g[i]? =h[i]?
 t:F'.t=F.t
 o:F'.o=F.o
 new:∀x,x=F'.tx∨x=F'.dc∨x=F'.li→(x=F.tx∨x=F.dc∨x=F.li)∨h.length≤x
theorem Cy.kp{F:Bo}{h g:LH}(k:Kp h g):Cy F F h g:=⟨k.le,fun i hi _ _ _ _=>k.keep i hi,rfl,rfl,fun x hx=>.inl hx⟩
theorem Cy.trans{F F' F'':Bo}{a b c:LH}(x:Cy F F' a b)(y:Cy F' F'' b c):Cy F F'' a c:=by
 have fr:∀i,i<a.length→i≠F.tx→i≠F.dc→i≠F.li→i≠F'.tx∧i≠F'.dc∧i≠F'.li:=by
  intro i hi h1 h2 h3
  refine ⟨fun z=>?_,fun z=>?_,fun z=>?_⟩
  ·rcases x.new i (.inl z) with h|h
   ·rcases h with h|h|h<;>contradiction
   ·omega
  ·rcases x.new i (.inr (.inl z)) with h|h
   ·rcases h with h|h|h<;>contradiction
   ·omega
  ·rcases x.new i (.inr (.inr z)) with h|h
   ·rcases h with h|h|h<;>contradiction
   ·omega
 refine ⟨Nat.le_trans x.le y.le,fun i hi h1 h2 h3 h4=>?_,y.t.trans x.t,y.o.trans x.o,fun i hi=>?_⟩
 ·obtain ⟨n1,n2,n3⟩:=fr i hi h2 h3 h4
  rw [y.keep i (Nat.lt_of_lt_of_le hi x.le) (by rw [x.t];exact h1) n1 n2 n3]
  exact x.keep i hi h1 h2 h3 h4
 ·rcases y.new i hi with h|h
  ·exact x.new i h
  ·exact .inr (Nat.le_trans x.le h)
theorem Cy.get{F F':Bo}{h g:LH}{i:Nat}{o:LO}(x:Cy F F' h g)(h1:i≠F.t)(h2:i≠F.tx)(h3:i≠F.dc)(h4:i≠F.li)(e:h[i]? =some o):g[i]? =some o:=(x.keep i (CK e) h1 h2 h3 h4).trans e
def rowsOf(d:D):List D:=match d with
 | .tup [_,_,_,.tup rs]=>rs
 |_=>[]
structure Ql(S:Cq):Prop where
 c:Ib S.c=true
 zc:BZ S.zc=true∧S.zc.length≤100000
 st:∀p,S.st=some p→JW p.1=true∧BZ p.2=true∧p.2.length≤100000
 sh:∀p,S.sh=some p→JV p.1=true∧BZ p.2=true∧p.2.length≤100000
 so:S.st=none→S.sh=none
 Dg:S.st≠none→PE 4 2000 S.Dg
 ls:∀p∈S.ls,∃n d r w,p=(.inr n,.tup [d,r])∧isList d=true∧CJ r=true∧S.sh=some w∧n∈(rowsOf w.1).map DG
 nd:(S.ls.map (·.1)).Nodup
section
variable{h:LH}{F:Bo}{S:Cq}
def od(o:Option D):D:=o.getD .non
end
end HM
namespace HM
open PySem L2
section
variable{h:LH}{F:Bo}{S:Cq}
end
end HM
namespace HM
open PySem L2
section
variable{h:LH}{F:Bo}{S:Cq}
end
end HM
namespace HM
open PySem L2
end HM
namespace HM
open PySem L2
section
variable{h:LH}{F:Bo}{S:Cq}
end
end HM
namespace HM
open PySem L2
section
variable{h:LH}{F:Bo}{S:Cq}
end
end HM
namespace HM
open PySem L2
section
variable{h:LH}{F:Bo}{S:Cq}
end
end HM
namespace HM
open PySem L2
structure Sg(ps:List PR)(d:D)(ks:List (List Nat))(Z:List Nat):Prop where
 ex:∃ts:List (List Nat),GS (encD d) (ts.map (Tj (encD d)))∧Z=encD (Io (encD d) (ts.map (Tj (encD d))))∧(∀x,x∈ts↔x∈ks)∧ts.Nodup
 pd:∀k∈ks,(k,encD d)∈ps
theorem Sg.mono{ps ps':List PR}{d:D}{ks:List (List Nat)}{Z:List Nat}(x:Sg ps d ks Z)(h:∀p∈ps,p∈ps'):Sg ps' d ks Z:=⟨x.ex,fun k hk=>h _ (x.pd k hk)⟩
theorem Sg.len{ps:List PR}{d:D}{ks:List (List Nat)}{Z:List Nat}(x:Sg ps d ks Z):Z.length≤20000:=by
 obtain ⟨ts,gs,rfl,_⟩:=x.ex
 exact gs.len
end HM
namespace HM
open PySem L2
end HM
namespace HM
open PySem L2
def Hl(x:D):Prop:=∀h,L.Gg [x,x] h=.ok (.bl true) h
theorem Hl.non:Hl .non:=fun h=>dR
theorem Hl.pe{r n:Nat}{d:D}(p:PE r n d)(hr:r≤20)(hn:n≤16000000):Hl d:=fun h=>dW p hr hn
theorem Hl.str{s:List Nat}(ha:BZ s=true)(hl:s.length≤100000):Hl (.str s):=fun h=>same_str ha (by omega)
theorem I_.keep{h g:LH}{F:Bo}{S:Cq}(T:I_ h F S)(k:∀i,i=F.t∨i=F.tx∨i=F.dc∨i=F.li→g[i]? =h[i]?):I_ g F S:=
 ⟨(k _ (.inl rfl)).trans T.ht,(k _ (.inr (.inl rfl))).trans T.hx,(k _ (.inr (.inr (.inl rfl)))).trans T.hd,(k _ (.inr (.inr (.inr rfl)))).trans T.hl,T.ne⟩
section
variable{h:LH}{F:Bo}{S:Cq}
end
end HM
namespace HM
open PySem L2
theorem Cm.st{h g:LH}(x:Cm 0 2 h g)(s:Bj g 0):Bj g 0:=s
structure iZ(h g:LH)(ps ps':List PR)(th:Int)(E ks:List (List Nat))(d:D)(Z:List Nat):Prop where
 st:Bj g 0
 of:Off g 1 2 ps'
 sg:Sg ps' d ks Z
 sub:∀k∈ks,k∈E
 nd:ks.Nodup
 th:th≤ks.length
 lB:∀p∈ps,p∈ps'
 len:ps'.length≤ps.length+32
 fr:Cm 0 2 h g
structure FB(F:Bo):Prop where
 t:2<F.t
 tx:2<F.tx
 dc:2<F.dc
 li:2<F.li
theorem FB.next{F F':Bo}{h g:LH}(b:FB F)(f:Cy F F' h g)(l:2<h.length):FB F':=by
 have n:∀x,x=F'.tx∨x=F'.dc∨x=F'.li→2<x:=fun x hx=>by
  rcases f.new x hx with h|h
  ·have:=b.tx
   have:=b.dc
   have:=b.li
   rcases h with h|h|h<;>omega
  ·omega
 exact ⟨by rw [f.t];exact b.t,n _ (.inl rfl),n _ (.inr (.inl rfl)),n _ (.inr (.inr rfl))⟩
theorem FB.st{h g:LH}{F F':Bo}(b:FB F)(f:Cy F F' h g)(s:Bj h 0):Bj g 0:=by
 obtain ⟨x,y,e⟩:=s
 have:=b.t
 have:=b.tx
 have:=b.dc
 have:=b.li
 exact ⟨x,y,f.get (by omega) (by omega) (by omega) (by omega) e⟩
end HM
namespace DR
open PySem L2 HM
structure Wr(r:Nat)(g0 g:LH):Prop where
 le:g.length=g0.length
 ne:∀i,i≠r→g[i]? =g0[i]?
theorem Wr.set{r:Nat}{g0 g:LH}{o:LO}(w:Wr r g0 g):Wr r g0 (g.set r o):=⟨by simpa using w.le,fun i hi=>by rw [List.getElem?_set_ne (Ne.symm hi)];exact w.ne i hi⟩
end DR
namespace HM
open PySem L2
end HM
namespace HM
open PySem L2
def SC(x:D):Prop:=∀h,Cl h 9 x
theorem SC.pe{r n:Nat}{d:D}(p:PE r n d)(hr:r≤8)(hn:n≤200000):SC d:=fun h=>(aY (h:=h) p.p (Nat.le_trans p.l hn)).mono (by omega)
theorem SC.non:SC .non:=fun h=>(show Cl h 0 .non from trivial).mono (by decide)
theorem SC.bl(b:Bool):SC (.bl b):=fun h=>(show Cl h 0 (.bl b) from trivial).mono (by decide)
theorem SC.str{s:List Nat}(ha:BZ s=true)(hl:s.length≤100000):SC (.str s):=by
 refine SC.pe (r:=0) (n:=100030) ⟨ha,?_⟩ (by decide) (by decide)
 have:=Jj (n:=s.length) (by omega)
 rw [G9]
 simp
 omega
theorem Ua{h:LH}{a b:Nat}{xs:List D}(ha:h[a]? =some (.lst xs))(hb:h[b]? =some (.lst xs))(hx:∀x∈xs,SC x)(hl:xs.length≤1000):Bm (.ref a) (.ref b) h=.ok (.bl true) h∧CT (.ref a) (.ref b) h=.ok (.bl false) h:=by
 have ca:Cl h 10 (.ref a):=⟨xs,ha,by omega,fun x hm=>hx x hm h⟩
 obtain ⟨p,e1,g1,_⟩:=WY ca 10000000 (by decide)
 have e2:toP 10000000 h (.ref b)=some p:=by
  rw [←e1]
  show (match h[b]? with
   |some (.lst xs)=>(Ca 9999999 h xs).map PyData.list
   |_=>none)=(match h[a]? with
   |some (.lst xs)=>(Ca 9999999 h xs).map PyData.list
   |_=>none)
  rw [ha,hb]
 have sp:=g1.shaped (by decide)
 have e:Hr 10000000 (.ref a) (.ref b) h=some true:=by
  unfold Hr
  simp only [e1,e2,sp,Bool.and_self,if_true,SeqAt.eqv_refl _ g1.1]
 unfold Bm CT
 rw [e]
 exact ⟨rfl,rfl⟩
section
variable{h:LH}{F:Bo}{S:Cq}
end
def Bo.c(F:Bo)(i:Nat):Prop:=i=F.t∨i=F.tx∨i=F.dc∨i=F.li
theorem Cy.cell{F F':Bo}{h g:LH}(f:Cy F F' h g){i:Nat}(hi:F'.c i):F.c i∨h.length≤i:=by
 rcases hi with rfl|h|h|h
 ·exact .inl (.inl f.t)
 ·rcases f.new i (.inl h) with q|q
  ·exact .inl (.inr q)
  ·exact .inr q
 ·rcases f.new i (.inr (.inl h)) with q|q
  ·exact .inl (.inr q)
  ·exact .inr q
 ·rcases f.new i (.inr (.inr h)) with q|q
  ·exact .inl (.inr q)
  ·exact .inr q
theorem Cy.out{F F':Bo}{h g:LH}(f:Cy F F' h g){i:Nat}(hi:¬F.c i)(l:i<h.length):g[i]? =h[i]? :=
 f.keep i l (fun z=>hi (.inl z)) (fun z=>hi (.inr (.inl z))) (fun z=>hi (.inr (.inr (.inl z)))) (fun z=>hi (.inr (.inr (.inr z))))
structure Ly(h:LH)(F1 F2:Bo)(ps:List PR)(S1 S2:Cq):Prop where
 T1:I_ h F1 S1
 T2:I_ h F2 S2
 k1:Ql S1
 k2:Ql S2
 of:Off h 0 1 ps
 dj:∀i,F1.c i→¬F2.c i
 b1:∀i,F1.c i→1<i
 b2:∀i,F2.c i→1<i
 o1:F1.o=0
 o2:F2.o=0
section
variable{h g:LH}{F1 F2 iJ iK:Bo}{ps ps':List PR}{S1 S2 iY S2':Cq}
theorem Ly.kp(w:Ly h F1 F2 ps S1 S2)(K:Kp h g):Ly g F1 F2 ps S1 S2:=⟨Tr.kp w.T1 K,Tr.kp w.T2 K,w.k1,w.k2,w.of.kp K,w.dj,w.b1,w.b2,w.o1,w.o2⟩
end
end HM
namespace G
open PySem L2 HM L
theorem Rr{x:XO}{z:Option D}{b:Bool}{h:LH}(hz:z.isSome=true∨Fp x=true):Ie x z (some b) h=.ok (.bl b) h:=by
 unfold Ie
 dsimp only
 rw [if_pos hz]
theorem Xi(x:XO)(p:Addr×Addr)(b:Option Bool)(z:Option D)(a c:Option D)(r:EN)(h:LH):Bg x p b (Aa 2) (a::c::some (Ac p z)::r) h=Ie x z b h:=by
 unfold Bg Aa Ie Ac
 cases z<;>cases b<;>simp [Res.bind]
theorem ZR{x:XO}{z:Option D}{h:LH}{b1 b2 b3 b4 b5 b6 b7 b8:Bool}(hz:z.isSome=true∨Fp x=true)(e1:Gn x.cls=some b1)(e2:Gj x.cls=some b2)(e3:Gk x.cls=some b3)(e4:Gm x.cls=some b4)
  (e5:Gq x.cls=some b5) (e6:Gp x.cls=some b6) (e7:Fl x.cls=some b7) (e8:Fj x.cls=some b8):
  H_ x (0,0) [Ac (0,0) z] h=.ok (.ref (h.length+2)) (h++[.lst [.bl b1,.bl b2,.bl b3,.bl b4],.lst [.bl b5,.bl b6,.bl b7,.bl b8],.lst [.bl b1,.bl b2,.bl b3,.bl b4,.bl b5,.bl b6,.bl b7,.bl b8]]):=by
 unfold H_
 rw [Eb (show [Ac (0,0) z].length=1 from rfl)]
 unfold Mh
 have ad:Bb (.ref h.length) (.ref (h.length+1)) (h++[.lst [.bl b1,.bl b2,.bl b3,.bl b4],.lst [.bl b5,.bl b6,.bl b7,.bl b8]])=.ok (.ref (h.length+2)) ((h++[.lst [.bl b1,.bl b2,.bl b3,.bl b4],.lst [.bl b5,.bl b6,.bl b7,.bl b8]])++[.lst [.bl b1,.bl b2,.bl b3,.bl b4,.bl b5,.bl b6,.bl b7,.bl b8]]):=by
  rw [J8 (i:=h.length) (j:=h.length+1) (a:=[.bl b1,.bl b2,.bl b3,.bl b4]) (b:=[.bl b5,.bl b6,.bl b7,.bl b8]) (by simp) (by simp [List.getElem?_append_right]) (by simp)]
  simp
 simp-implicitDefEqProofs [Bf,Xj,Rr hz,e1,e2,e3,e4,e5,e6,e7,e8,ad]
def row(k:Nat):List D:=((List.range 8).map fun m=>D.bl (decide (m=k)))++[.bl true,.bl false]
theorem Fq{w:List Nat}{k:Int}{h:LH}{x:XO}{z:Option D}{b1 b2 b3 b4 b5 b6 b7 b8:Bool}(ey:Oj [some (.str w),some (.int k),none] h=.exc x [some (.str w),some (.int k),none] h)(er:Dj x=some z)(hz:z.isSome=true∨Fp x=true)
  (e0:Ec x.cls=some true) (e1:Gn x.cls=some b1) (e2:Gj x.cls=some b2) (e3:Gk x.cls=some b3) (e4:Gm x.cls=some b4)
  (e5:Gq x.cls=some b5) (e6:Gp x.cls=some b6) (e7:Fl x.cls=some b7) (e8:Fj x.cls=some b8):
  ∃g,JH [.str w,.int k] h=.ok (.ref (h.length+4)) g∧Kp h g∧g[h.length+4]? =some (.lst [.bl b1,.bl b2,.bl b3,.bl b4,.bl b5,.bl b6,.bl b7,.bl b8,.bl true,.bl false]):=by
 have kk:=ZR (h:=h) hz e1 e2 e3 e4 e5 e6 e7 e8
 have e9:Ij x.cls=some false:=by unfold Ij;rw [e0];rfl
 obtain ⟨g1,hg1⟩:∃g1,g1=h++[LO.lst [.bl b1,.bl b2,.bl b3,.bl b4],.lst [.bl b5,.bl b6,.bl b7,.bl b8],.lst [.bl b1,.bl b2,.bl b3,.bl b4,.bl b5,.bl b6,.bl b7,.bl b8]]:=⟨_,rfl⟩
 rw [←hg1] at kk
 have l1:g1.length=h.length+3:=by rw [hg1];simp
 have q1:(g1++[LO.lst [.bl true,.bl false]])[h.length+2]? =some (.lst [.bl b1,.bl b2,.bl b3,.bl b4,.bl b5,.bl b6,.bl b7,.bl b8]):=by
  rw [List.getElem?_append_left (by omega),hg1,List.getElem?_append_right (by omega)]
  simp
 have q2:(g1++[LO.lst [.bl true,.bl false]])[g1.length]? =some (.lst [.bl true,.bl false]):=by simp
 have ad:=J8 q1 q2 (by simp)
 refine ⟨g1++[LO.lst [.bl true,.bl false]]++[.lst ([.bl b1,.bl b2,.bl b3,.bl b4,.bl b5,.bl b6,.bl b7,.bl b8]++[.bl true,.bl false])],?_,?_,?_⟩
 rotate_left
 ·rw [hg1]
  refine ⟨by simp,fun i hi=>?_⟩
  rw [List.append_assoc,List.append_assoc,List.getElem?_append_left hi]
 ·rw [List.getElem?_append_right (by simp [l1])]
  simp [l1]
 ·unfold JH
  rw [Eb (show [D.str w,D.int k].length=2 from rfl)]
  unfold Mj Jg
  show (match (match Oj [some (.str w),some (.int k),none] h with
   | .exc x e1 h1=>Gz x e1 h1 _
   |z=>z) with
   | .next _ h=>Res.ok D.non h
   | .ret d h=>.ok d h
   | .exc x _ h=>.exc x h
   | .brk _ _=>.bad
   | .cnt _ _=>.bad
   | .bad=>.bad)=_
  rw [ey]
  unfold Gz
  dsimp only
  rw [e0,er]
  dsimp only
  rw [show (h.length+4:Nat)=(g1++[LO.lst [.bl true,.bl false]]).length by simp [l1],←ad]
  simp-implicitDefEqProofs [Xi,Rr hz,e0,e9,kk]
  rw [ad]
  rfl
theorem bQ(w:List Nat)(k:Nat)(hk:k<9)(h:LH):∃g,JH [.str w,.int k] h=.ok (.ref (h.length+4)) g∧Kp h g∧g[h.length+4]? =some (.lst (row k)):=by
 have t:∀{i j:Int},Bm (.int i) (.int j) h=.ok (.bl (decide (i=j))) h:=rfl
 match k,hk with
 |0,_=>exact Fq (x:=⟨"BadText",[]⟩) (z:=none) (by rfl) rfl (.inr rfl) rfl rfl rfl rfl rfl rfl rfl rfl rfl
 |1,_=>exact Fq (x:=⟨"BadDocument",[]⟩) (z:=none) (by rfl) rfl (.inr rfl) rfl rfl rfl rfl rfl rfl rfl rfl rfl
 |2,_=>exact Fq (x:=⟨"BadKey",[]⟩) (z:=none) (by rfl) rfl (.inr rfl) rfl rfl rfl rfl rfl rfl rfl rfl rfl
 |3,_=>exact Fq (x:=⟨"BadState",[]⟩) (z:=none) (by rfl) rfl (.inr rfl) rfl rfl rfl rfl rfl rfl rfl rfl rfl
 |4,_=>exact Fq (x:=⟨"DiskError",[]⟩) (z:=none) (by rfl) rfl (.inr rfl) rfl rfl rfl rfl rfl rfl rfl rfl rfl
 |5,_=>exact Fq (x:=⟨"DiskCrashed",[]⟩) (z:=none) (by rfl) rfl (.inr rfl) rfl rfl rfl rfl rfl rfl rfl rfl rfl
 |6,_=>exact Fq (x:=⟨"Refused",[("reason",.str w)]⟩) (z:=some (.str w)) (by rfl) rfl (.inl rfl) rfl rfl rfl rfl rfl rfl rfl rfl rfl
 |7,_=>exact Fq (x:=⟨"BadAct",[("reason",.str w)]⟩) (z:=some (.str w)) (by rfl) rfl (.inl rfl) rfl rfl rfl rfl rfl rfl rfl rfl rfl
 |8,_=>exact Fq (x:=⟨"ChartError",[]⟩) (z:=none) (by rfl) rfl (.inr rfl) rfl rfl rfl rfl rfl rfl rfl rfl rfl
theorem bV(w:List Nat)(b:Bool)(h:LH):KR [.str w,.bl b] h=.ok (.str w) h:=by
 cases b<;>rfl
end G
namespace G
open PySem L2 HM L
def Dz:List Int:=[1000000000000,20,8,100000,16,32,64,4000,2000,32,16,60]
theorem Zi(h:LH):∃g,KQ [] h=.ok (.bl true) g∧Kp h g:=by
 obtain ⟨g3,hg3⟩:∃g3,g3=h++[LO.lst (([1000000000000,20,8,100000,16,32,64]:List Int).map D.int),.lst (([4000,2000,32,16,60]:List Int).map D.int)]:=⟨_,rfl⟩
 have ad:Bb (.ref h.length) (.ref (h.length+1)) g3=.ok (.ref (h.length+2)) (g3++[.lst (Dz.map D.int)]):=by
  rw [J8 (i:=h.length) (j:=h.length+1) (a:=([1000000000000,20,8,100000,16,32,64]:List Int).map D.int) (b:=([4000,2000,32,16,60]:List Int).map D.int) (by rw [hg3];simp) (by rw [hg3];simp [List.getElem?_append_right]) (by simp),hg3]
  simp [Dz]
 obtain ⟨g5,KZ⟩:∃g5,g5=g3++[LO.lst (Dz.map D.int)]++[.lst (Dz.map D.int)]:=⟨_,rfl⟩
 have l3:g3.length=h.length+2:=by rw [hg3];simp
 have q0:g5[h.length+2]? =some (.lst (Dz.map D.int)):=by rw [KZ];simp [←l3]
 have q1:g5[h.length+3]? =some (.lst (Dz.map D.int)):=by rw [KZ,List.getElem?_append_right (by simp [l3])];simp [l3]
 have kp:Kp h g5:=by
  rw [KZ,hg3]
  refine ⟨by simp,fun i hi=>?_⟩
  rw [List.append_assoc,List.append_assoc,List.getElem?_append_left hi]
 refine ⟨g5,?_,kp⟩
 have key:=Kh (g:=Gh 12) (t:=.nm 2) (body:=Oi) (N:=12) (fun j=>.int (j:Nat))
  (fun j e g=>g=g5∧∃v,e=[some (.ref (h.length+2)),some (.ref (h.length+3)),v])
  (fun r=>∃v,r=.next [some (.ref (h.length+2)),some (.ref (h.length+3)),v] g5)
  (fun j e g hj hi=>rfl) (by
   rintro j e g hj ⟨rfl,v,rfl⟩
   refine ⟨_,rfl,?_⟩
   obtain ⟨x,hx⟩:∃x,Dz[j]? =some x:=⟨Dz[j]'(by simpa [Dz] using hj),List.getElem?_eq_getElem _⟩
   have hx':atI (Dz.map D.int) (j:Int)=some (.int x):=Ho (by omega) (by simp [hx])
   have e0:=G7 q0 hx'
   have e1:=G7 q1 hx'
   unfold Oi
   simp-implicitDefEqProofs [e0,e1,BX,isB,M8,Br])
  (fun e g ⟨a,v,b⟩=>⟨v,by rw [a,b]⟩) 12 0 [some (.ref (h.length+2)),some (.ref (h.length+3)),none] g5 (by omega) ⟨rfl,none,rfl⟩
 obtain ⟨v,ek⟩:=key
 unfold KQ
 rw [Eb (show ([]:List D).length=0 from rfl)]
 unfold Mi Ui Uj Uk Ul Um
 have p12:∀g:LH,Hv (.int 10) (.int 12) g=.ok (.int 1000000000000) g:=fun _=>rfl
 have Ma:=ad
 rw [hg3] at Ma
 have Nf:=KZ
 rw [hg3] at Nf
 simp [Dz] at Ma Nf
 simp-implicitDefEqProofs [Bf,JD,p12,Ma,←Nf,ek]
theorem W9(k:Nat)(hk:k<9)(e:EN)(h:LH)(h4:e[4]? =some (some (.int (k:Nat))))(l:e.length=9):∃g,Af Bb (Ig (Dq (Ab (mC (.int 8)) Ag)) (.nm 8) Ii LQ [8]) (Bw (Ab (mC (.bl true)) (Ab (mC (.bl false)) Ag))) e h=.ok (.ref (h.length+2)) g∧Kp h g∧g[h.length+2]? =some (.lst (row k)):=by
 have key:=R7 (g:=Gh 8) (t:=.nm 8) (c:=Ii) (y:=LQ) (e:=Cd e [8]) (k:=h.length) (N:=8) (fun j=>.int (j:Nat))
  (fun j acc g=>acc=(List.range j).map (fun m=>D.bl (decide (m=k)))∧g=h++[.lst acc])
  (fun j acc g hj hi=>rfl) (fun j acc g hj hi=>by rw [hi.2];simp) (by
   rintro j acc g hj ⟨ea,eg⟩
   refine ⟨_,rfl,.inr ⟨g,.bl (decide (j=k)),g,acc,rfl,?_,by rw [eg];simp,by rw [ea];simp;omega,?_,?_⟩⟩
   ·have z4:((Cd e [8]).set 8 (some (.int (j:Nat))))[4]? =some (some (.int (k:Nat))):=by
     rw [List.getElem?_set_ne (by decide)]
     show (e.set 8 none)[4]? =_
     rw [List.getElem?_set_ne (by decide)]
     exact h4
    have z8:((Cd e [8]).set 8 (some (.int (j:Nat))))[8]? =some (some (.int (j:Nat))):=List.getElem?_set_self (by simp [Cd,l])
    unfold LQ
    show (Af Bm (Aa 8) (Aa 4)) ((Cd e [8]).set 8 (some (.int (j:Nat)))) g=_
    have v8:Aa 8 ((Cd e [8]).set 8 (some (.int (j:Nat)))) g=.ok (.int (j:Nat)) g:=by rw [ev_var,z8]
    have v4:Aa 4 ((Cd e [8]).set 8 (some (.int (j:Nat)))) g=.ok (.int (k:Nat)) g:=by rw [ev_var,z4]
    rw [ev_op,v8]
    show (Aa 4 ((Cd e [8]).set 8 (some (.int (j:Nat)))) g).bind _=_
    rw [v4]
    show Res.ok (D.bl (decide ((j:Int)=(k:Int)))) g=_
    have:decide ((j:Int)=(k:Int))=decide (j=k):=by congr 1;exact propext ⟨fun z=>by omega,fun z=>by omega⟩
    rw [this]
   ·rw [ea,List.range_succ];simp
   ·rw [eg];simp) 8 0 [] (h++[.lst []]) (by omega) ⟨rfl,rfl⟩
 obtain ⟨acc,g,ek,ea,eg⟩:=key
 have q0:(g++[LO.lst [.bl true,.bl false]])[h.length]? =some (.lst ((List.range 8).map fun m=>D.bl (decide (m=k)))):=by
  rw [eg,ea];simp
 have q1:(g++[LO.lst [.bl true,.bl false]])[g.length]? =some (.lst [.bl true,.bl false]):=by simp
 have lg:g.length=h.length+1:=by rw [eg];simp
 have ad:=J8 q0 q1 (by simp)
 refine ⟨g++[LO.lst [.bl true,.bl false]]++[.lst (row k)],?_,?_,?_⟩
 ·simp-implicitDefEqProofs [JD,ek,ad]
  simp [lg,row]
 ·rw [eg]
  refine ⟨by simp,fun i hi=>?_⟩
  rw [List.append_assoc,List.append_assoc,List.getElem?_append_left hi]
 ·rw [List.getElem?_append_right (by simp [lg])];simp [lg]
theorem Kp.st{h g:LH}{r:Nat}(k:Kp h g)(s:Bj h r):Bj g r:=by
 obtain ⟨a,b,e⟩:=s
 exact ⟨a,b,(k.keep r (CK e)).trans e⟩
theorem Kp.at{h g:LH}{r:Nat}{o:LO}(k:Kp h g)(e:h[r]? =some o):g[r]? =some o:=(k.keep r (CK e)).trans e
def Rs:List String:=["form","seals","version","length","digest","role","expired","missing"]
theorem bZ(k:Nat):∀x∈row k,SC x:=by
 intro x hx
 unfold row at hx
 rcases List.mem_append.mp hx with z|z
 ·obtain ⟨m,_,rfl⟩:=List.mem_map.mp z
  exact SC.bl _
 ·simp at z
  rcases z with rfl|rfl<;>exact SC.bl _
theorem bh:∀x∈Rs.map S,SC x:=by
 intro x hx
 obtain ⟨s,hs,rfl⟩:=List.mem_map.mp hx
 have:Rs.all (fun s=>BZ (Str.ofString s).cps.toList&&decide ((Str.ofString s).cps.toList.length≤100000))=true:=by decide+kernel
 have q:=List.all_eq_true.mp this s hs
 rw [Bool.and_eq_true] at q
 exact SC.str q.1 (of_decide_eq_true q.2)
theorem Zd:Jv RM:=by
 refine Zb fun ns hn hb=>?_
 obtain ⟨c,ec⟩:=WR ns (k:=0) (by omega)
 obtain ⟨h1,es,st1,_⟩:=eG (n:=c) (h:=[])
 obtain ⟨h2,hh2⟩:∃h2,h2=h1++[LO.lst (Rs.map S)]:=⟨_,rfl⟩
 obtain ⟨h3,hh3⟩:∃h3,h3=h2++[LO.lst (Rs.map S)]:=⟨_,rfl⟩
 have l2:h2.length=h1.length+1:=by rw [hh2];simp
 have q2:h2[h1.length]? =some (.lst (Rs.map S)):=by rw [hh2];simp
 have q3:h3[h1.length]? =some (.lst (Rs.map S)):=by rw [hh3,List.getElem?_append_left (by omega)];exact q2
 have bD:h3[h2.length]? =some (.lst (Rs.map S)):=by rw [hh3];simp
 have ne3:=(Ua bD q3 bh (by decide)).2
 obtain ⟨h4,el,k4⟩:=Zi h3
 have k14:Kp h1 h4:=by
  refine Kp.trans ⟨?_,fun i hi=>?_⟩ k4
  ·rw [hh3,hh2];simp
  ·rw [hh3,hh2,List.append_assoc,List.getElem?_append_left hi]
 have st4:Bj h4 0:=Kp.st k14 st1
 have q4:h4[h1.length]? =some (.lst (Rs.map S)):=Kp.at k4 q3
 have hne:h1.length≠0:=by
  obtain ⟨a,b,e⟩:=st1
  have:=CK e
  simp at this
  omega
 have l1:dList [.tup (List.map S ["form","seals","version","length","digest","role","expired","missing"])] h2=.ok (.ref h2.length) h3:=by rw [hh3];rfl
 obtain ⟨z,h5,e5,_,_,F5⟩:=eX (most:=9) st4 (by decide) (by decide)
 obtain ⟨v,h6,e6,v0,v1,F6,_⟩:=Lg (m:=2) F5.st (by decide) (by decide)
 have e1:Ol (some (.Ar ns)::List.replicate 8 none) []=.next [some (.Ar ns),some (.ref 0),none,none,none,none,none,none,none] h1:=by
  unfold Ol
  have es':L.IK [.int c] []=.ok (.ref 0) h1:=es
  simp-implicitDefEqProofs [ec,es',List.replicate]
 have e2:Om [some (.Ar ns),some (.ref 0),none,none,none,none,none,none,none] h1=.next [some (.Ar ns),some (.ref 0),some (.ref h1.length),none,none,none,none,none,none] h2:=by
  unfold Om
  rw [hh2]
  rfl
 have e3:Oo [some (.Ar ns),some (.ref 0),some (.ref h1.length),none,none,none,none,none,none] h2=.next [some (.Ar ns),some (.ref 0),some (.ref h1.length),none,none,none,none,none,none] h4:=by
  unfold Oo
  generalize hT:List.map S ["form","seals","version","length","digest","role","expired","missing"]=T at l1 ⊢
  simp-implicitDefEqProofs [l1,ne3,el,BX,isB,Br]
 have e4:Oq [some (.Ar ns),some (.ref 0),some (.ref h1.length),none,none,none,none,none,none] h4=.next [some (.Ar ns),some (.ref 0),some (.ref h1.length),some (.str z),none,none,none,none,none] h5:=by
  unfold Oq
  simp-implicitDefEqProofs [e5]
 obtain ⟨w,h7,e7⟩:∃w h7,K_ [some (.Ar ns),some (.ref 0),some (.ref h1.length),some (.str z),none,none,none,none,none] h5=.next [some (.Ar ns),some (.ref 0),some (.ref h1.length),some (.str w),none,none,none,none,none] h7:=by
  by_cases c0:v=0
  ·subst c0
   obtain ⟨u,h7,eu,u0,u1,F7,_⟩:=Lg (m:=8) F6.st (by decide) (by decide)
   have q7:h7[h1.length]? =some (.lst (Rs.map S)):=F7.get hne (F6.get hne (F5.get hne q4))
   obtain ⟨s,hs⟩:∃s,Rs[u.toNat]? =some s:=⟨Rs[u.toNat]'(by simp [Rs];omega),List.getElem?_eq_getElem _⟩
   have ix:atI (Rs.map S) u=some (S s):=Ho u0 (by rw [List.getElem?_map,hs];rfl)
   have ei:=G7 q7 ix
   refine ⟨(Str.ofString s).cps.toList,h7,?_⟩
   unfold K_
   have dq:Bm (.int 0) (.int 0) h6=.ok (.bl true) h6:=rfl
   rw [ev_if]
   simp-implicitDefEqProofs [e6,dq,eu,ei]
   rfl
  ·refine ⟨z,h6,?_⟩
   unfold K_
   have dq:Bm (.int v) (.int 0) h6=.ok (.bl (decide (v=0))) h6:=rfl
   rw [ev_if]
   simp-implicitDefEqProofs [e6,dq,c0]
 have key:=Kh (g:=Gh 9) (t:=.nm 4) (body:=LK) (N:=9) (fun j=>.int (j:Nat))
  (fun j e g=>∃v4 v5,e=[some (.Ar ns),some (.ref 0),some (.ref h1.length),some (.str w),v4,v5,none,none,none])
  (fun r=>∃v4 v5 g,r=.next [some (.Ar ns),some (.ref 0),some (.ref h1.length),some (.str w),v4,v5,none,none,none] g)
  (fun j e g hj hi=>rfl) (by
   rintro j e g hj ⟨v4,v5,rfl⟩
   refine ⟨_,rfl,?_⟩
   show match LK [some (.Ar ns),some (.ref 0),some (.ref h1.length),some (.str w),some (.int (j:Nat)),v5,none,none,none] g with
   | .next e2 h2=>_
   | .cnt e2 h2=>_
   | .brk e2 h2=>_
   | .ret x h2=>_
   | .exc x e2 h2=>_
   | .bad=>False
   obtain ⟨g1,ed,kd,qd⟩:=W9 j hj [some (.Ar ns),some (.ref 0),some (.ref h1.length),some (.str w),some (.int (j:Nat)),v5,none,none,none] g rfl rfl
   obtain ⟨g2,er,kr,qr⟩:=bQ w j hj g1
   have ne:=(Ua qr (Kp.at kr qd) (bZ j) (by simp [row])).2
   have x1:Ot [some (.Ar ns),some (.ref 0),some (.ref h1.length),some (.str w),some (.int (j:Nat)),v5,none,none,none] g=.next [some (.Ar ns),some (.ref 0),some (.ref h1.length),some (.str w),some (.int (j:Nat)),some (.ref (g.length+2)),none,none,none] g1:=by
    unfold Ot
    rw [Xg,ed]
    rfl
   have x2:Ou [some (.Ar ns),some (.ref 0),some (.ref h1.length),some (.str w),some (.int (j:Nat)),some (.ref (g.length+2)),none,none,none] g1=.next [some (.Ar ns),some (.ref 0),some (.ref h1.length),some (.str w),some (.int (j:Nat)),some (.ref (g.length+2)),none,none,none] g2:=by
    unfold Ou
    simp-implicitDefEqProofs [er,ne]
   unfold LK
   rw [Bf,x1]
   dsimp only
   rw [x2]
   exact ⟨_,_,rfl⟩)
  (fun e g ⟨v4,v5,z⟩=>⟨v4,v5,g,by rw [z]⟩) 9 0 [some (.Ar ns),some (.ref 0),some (.ref h1.length),some (.str w),none,none,none,none,none] h7 (by omega) ⟨none,none,rfl⟩
 obtain ⟨v4,v5,h8,e8⟩:=key
 have key2:=Kh (g:=HJ h8.length) (t:=.nm 6) (body:=Ov) (N:=2) (fun j=>.bl (decide (j=1)))
  (fun j e g=>g=h8++[LO.lst [.bl false,.bl true]]∧∃v6 v7,e=[some (.Ar ns),some (.ref 0),some (.ref h1.length),some (.str w),v4,v5,v6,v7,none])
  (fun r=>∃e g,r=.next e g)
  (fun j e g hj hi=>by
   rw [hi.1]
   unfold HJ
   rw [show (h8++[LO.lst [.bl false,.bl true]])[h8.length]? =some (.lst [.bl false,.bl true]) by simp]
   match j,hj with
   |0,_=>rfl
   |1,_=>rfl
   |2,_=>rfl) (by
   rintro j e g hj ⟨rfl,v6,v7,rfl⟩
   refine ⟨_,rfl,?_⟩
   have er:=bV w (decide (j=1)) (h8++[LO.lst [.bl false,.bl true]])
   have ne:CT (.str w) (.str w) (h8++[LO.lst [.bl false,.bl true]])=.ok (.bl false) (h8++[LO.lst [.bl false,.bl true]]):=by rw [Ww];simp
   unfold Ov Us Ut
   generalize KR=FR at er ⊢
   simp-implicitDefEqProofs [Bf,er,BX,isB,ne,Br])
  (fun e g _=>⟨e,g,rfl⟩) 2 0 [some (.Ar ns),some (.ref 0),some (.ref h1.length),some (.str w),v4,v5,none,none,none] (h8++[LO.lst [.bl false,.bl true]]) (by omega) ⟨rfl,none,none,rfl⟩
 obtain ⟨e9,h9,XR⟩:=key2
 unfold Mr
 refine Hf e1 (Hf e2 (Hf e3 (Hf e4 (Hf e7 (Hf (e1:=[some (.Ar ns),some (.ref 0),some (.ref h1.length),some (.str w),v4,v5,none,none,none]) (h1:=h8) ?_ (Hf (e1:=e9) (h1:=h9) ?_ ?_))))))
 ·unfold Uo
  rw [NK]
  simp-implicitDefEqProofs [JD]
  exact e8
 ·unfold Ur
  rw [NK]
  simp-implicitDefEqProofs []
  exact XR
 ·exact ⟨h9,rfl⟩
end G
namespace GE
open PySem PySem.W PySem.Calls PySem.Spec PyProof.Rows L2 HM G HE GH L
theorem facts{K:PySem.W.Frag}{h:Heap}{mg:PySem.Str→Option Value}(X:K.In h)(G:h.Ns mainGlobals mg)(s:Em ft fn K):Tx K mg:=
 ⟨FJ X G s 0,
 FJ X G s 1,
 FJ X G s 2,
 FJ X G s 3,
 FJ X G s 4,
 FJ X G s 5,
 FJ X G s 6,
 FJ X G s 7,
 FJ X G s 8,
 FJ X G s 9,
 Hg X G s 10 11,
 Hg X G s 12 13,
 Hg X G s 14 15,
 Hg X G s 16 17,
 Hg X G s 18 19,
 Hg X G s 20 21,
 Hg X G s 22 23,
 Fg X G s 24 25 26 R_,
 Fg X G s 14 27 28 SJ,
 Fg X G s 16 29 30 SM,
 Fg X G s 18 31 32 SN,
 Fg X G s 12 33 34 SQ,
 Fg X G s 10 35 36 Sd,
 Fg X G s 22 37 38 Sh,
 Fg X G s 20 39 40 Sq,
 Fg X G s 41 42 43 Sv,
 Gi X G s 24 44 45 R_,
 Gi X G s 14 44 46 SJ,
 Gi X G s 16 44 47 SM,
 Gi X G s 18 44 48 SN,
 Gi X G s 12 44 49 SQ,
 Gi X G s 22 44 50 Sh,
 Gi X G s 20 44 51 Sq,
 Gi X G s 41 44 52 Sv,
 Ry X G s 44 53 Z7,
 Ry X G s 44 54 Z8,
 Ds X G s 55,
 Ds X G s 56,
 Ds X G s 57,
 Ds X G s 58,
 Ds X G s 59,
 Ds X G s 60,
 Ds X G s 61,
 Ds X G s 62,
 Ds X G s 63,
 Ds X G s 64,
 Ds X G s 65,
 Ds X G s 66,
 fP X G s 67,
 gj X G s 68,
 FZ X G s 24,
 FZ X G s 14,
 FZ X G s 16,
 FZ X G s 18,
 FZ X G s 12,
 FZ X G s 10,
 FZ X G s 22,
 FZ X G s 20,
 FZ X G s 41,
 Eo X G s 69 0,
 Eo X G s 70 1,
 Eo X G s 71 2,
 Eo X G s 72 3,
 Eo X G s 73 4,
 Eo X G s 74 5,
 Eo X G s 75 6,
 Eo X G s 76 7,
 Eo X G s 77 8,
 Eo X G s 78 9,
 R5 X G s 41 79 10,
 R5 X G s 24 80 11⟩
end GE
open PySem PySem.W PySem.Calls PyProof.Rows
theorem PySem.Challenge.cw_sealchart_k11_errors_and_limits_holds : PySem.Challenge.rw_sealchart_k11_errors_and_limits.Holds := by
 w_on;o_law
 refine HandSHeadRun.head_any (r:=OpenLaw.row PySem.Challenge.rw_sealchart_k11_errors_and_limits) (q:=GH.qv) (H:=GH.hk) (ob:=GH.ob) (M:=8000) (loose:=GH.names) (d:=HandSHeadRun.topDef (OpenLaw.row PySem.Challenge.rw_sealchart_k11_errors_and_limits).prog 33) (kwd:=[]) GH.aH
  (by kernel_rfl) (fun s=>by kernel_rfl) GH.run (by kernel_rfl) (by kernel_rfl) (by kernel_rfl) (by rfl) (by first|assumption|decide+kernel) (by decide+kernel) ⟨rfl,rfl,rfl,rfl,rfl,by decide+kernel⟩ ?hw ?hc
 case hw=>w_witness2
 case hc=>
  refine HM.fY (l:=PySem.Challenge.rw_sealchart_k11_errors_and_limits) (k:=4) (x:="_law_script") G.Zd rfl (by kernel_rfl) ⟨rfl,by decide,by decide⟩ ?F
  intro w mg fa h Y GG Yb
  obtain ⟨K,KX,c⟩:=Y
  have hmg:mg ("law":PySem.Str)=some (.ref fa):=by
   have e:(HandSHeadRun.topDef (OpenLaw.row PySem.Challenge.rw_sealchart_k11_errors_and_limits).prog 33).name=("law":PySem.Str):=by kernel_rfl
   rw [←e]
   exact Yb
  exact ⟨K,KX,G.Za (GE.facts KX GG c) hmg⟩
