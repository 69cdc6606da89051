/- Part 0 of a proof. No statement is proved here. -/
import Derived.Orders
import Derived.Laws.World
set_option linter.all false
set_option maxRecDepth 20000
set_option maxHeartbeats 16000000
noncomputable section
namespace Go.Proofs.YtnenpcghegcnhaaGreat
namespace Idl
theorem psc (n:Nat)(h:0<n):∃k,n=k+1:=⟨n-1,by omega⟩
theorem AhY {a b:Prop}(x:a)(y:b):a∧b:=⟨x,y⟩
def AhZ:=@Option.some.injEq.{0}
def Ah0:=@Prod.mk.injEq.{0,0}
def Ah1:=@Option.map_eq_some_iff.{0,0}
def Ah2:=@Option.map_some.{0,0}
def Ah3:=@List.length_cons.{0}
def Ah4:=@List.map_nil.{0,0}
def Ah5:=@List.map_cons.{0,0}
def Ah6:=@List.getElem?_eq_getElem.{0}
def Ah7:=@List.getElem?_eq_some_iff.{0}
def Ah8:=@List.getElem?_append_right.{0}
def Ah9:=@List.getElem?_append_left.{0}
def Aia:=@List.eq_nil_of_length_eq_zero.{0}
def Aib:=@List.getElem?_cons_zero.{0}
def Aic:=@List.getElem?_cons_succ.{0}
end Idl
end Go.Proofs.YtnenpcghegcnhaaGreat
namespace Go.Proofs.YtnenpcghegcnhaaGreat
namespace Idl
inductive FV where
 | bool (b:Bool)
 | int (k:IntKind) (n:Int)
 | str (s:ByteArray)
 | nilp
 | nilf
 | fp (cells:List FV) (off:Nat)
 | sl (elems:List FV)
 | func (fn:Fn) (first captured:List FV)
 | agg (cells:List FV)
 | tuple (vs:List FV)
 deriving Inhabited
inductive Ref where
 | own (k:Nat)
 | ext (j:Nat)
 deriving DecidableEq,Inhabited
inductive IV where
 | dead
 | fv (v:FV)
 | ptr (r:Ref) (off:Nat)
 | slc (r:Ref) (sz len:Nat)
 | nils
 | emp
 | clip (elems:List FV)
 | app (r:Ref) (elems:List FV)
 | func (fn:Fn) (first captured:List IV)
 | agg (cells:List IV)
 | tuple (vs:List IV)
 | mapr (r:Ref)
 deriving Inhabited
inductive Blk where
 | row (cells:List IV) (ro:Bool)
 | tok (len sz:Nat)
 | map (es:List (Int×IV))
 deriving Inhabited
structure Hp where
 own:List (Nat×Blk)
 ext:List Blk
 deriving Inhabited
def Aq (k:Nat):List (Nat×Blk)->Option Blk
 | []=>none
 | (j,b)::l=>if k=j then some b else Aq k l
def AQ (k:Nat) (b:Blk):List (Nat×Blk)->List (Nat×Blk)
 | []=>[(k,b)]
 | (j,c)::l=>if k=j then (j,b)::l else (j,c)::AQ k b l
def Hp.get (h:Hp):Ref->Option Blk
 | .own k=>Aq k h.own
 | .ext j=>h.ext[j]?
def Hp.set (h:Hp) (r:Ref) (b:Blk):Hp :=
 match r with
 | .own k=>{ h with own:=AQ k b h.own }
 | .ext j=>{ h with ext:=h.ext.set j b }
inductive Rd (α:Type) where
 | ret (a:α)
 | fail
 | get (r:Ref) (k:Blk->Rd α)
def Rd.bind {α β:Type}:Rd α->(α->Rd β)->Rd β
 | .ret a,f=>f a
 | .fail,_=>.fail
 | .get r k,f=>.get r fun b=>(k b).bind f
def Rd.run {α:Type}:Rd α->Hp->Option α
 | .ret a,_=>some a
 | .fail,_=>none
 | .get r k,h=>match h.get r with | some b=>(k b).run h | none=>none
def Rd.runLog {α:Type}:Rd α->Hp->List Ref->Option (α×List Ref)
 | .ret a,_,l=>some (a,l)
 | .fail,_,_=>none
 | .get r k,h,l=>match h.get r with | some b=>(k b).runLog h (r::l) | none=>none
def Rd.of {α:Type}:Option α->Rd α
 | some a=>.ret a
 | none=>.fail
structure Eff where
 val:IV
 upd:List (Ref×Blk):=[]
def FV.cells:FV->List FV
 | .agg cs=>cs
 | v=>[v]
def IV.cells:IV->List IV
 | .agg cs=>cs
 | .fv (.agg cs)=>cs.map .fv
 | v=>[v]
def IV.one:IV->Bool
 | .dead | .agg _ | .tuple _ | .fv (.agg _) | .fv (.tuple _)=>false
 | _=>true
def FV.one:FV->Bool
 | .agg _ | .tuple _=>false
 | _=>true
def IV.alive:IV->Bool
 | .dead | .tuple _ | .fv (.tuple _)=>false
 | _=>true
def F7:List IV->Option (List FV)
 | []=>some []
 | .fv v::l=>(F7 l).map (v::·)
 | _::_=>none
def Fr (l:List IV):IV:=match F7 l with | some vs=>.fv (.agg vs) | none=>.agg l
def CL (l:List IV):IV:=match F7 l with | some vs=>.fv (.tuple vs) | none=>.tuple l
def CJ (fn:Fn) (a b:List IV):IV :=
 match F7 a,F7 b with
 | some x,some y=>.fv (.func fn x y)
 | _,_=>.func fn a b
def Fx:Value->IV
 | .bool b=>.fv (.bool b)
 | .int k n=>.fv (.int k n)
 | .string s=>.fv (.str s)
 | .pointer none=>.fv .nilp
 | .slice none 0 0=>.nils
 | .nilFunc=>.fv .nilf
 | _=>.dead
def Lw:Value->IV
 | .agg cs=>Fr (cs.toList.map Fx)
 | v=>Fx v
inductive TK where
 | int (k:IntKind) | bool | str | ptr | func
 | slice (elem:TypeId)
 | arr (n:Nat) (elem:TypeId)
 | struct (fields:List (Nat×TypeId))
 | map (key elem:TypeId)
 deriving Inhabited
structure TI where
 size:Nat
 bytes:Nat
 kind:TK
 zero:List IV
 deriving Inhabited
def TK.isAgg:TK->Bool
 | .arr .. | .struct ..=>true
 | _=>false
structure Pol where
 /-- the callee's blocks are laid beside the caller's own -/
 inl:FuncId->Bool
 /-- parameters that are handed on as they are (a pointer to a block that lives on) -/
 keep:FuncId->List Bool
 /-- the result is not frozen -/
 raw:FuncId->Bool
 /-- a loop (by its function and its body's first region): slots and blocks that are dropped at its head -/
 head:FuncId->Nat->List Nat×List Nat
 /-- an append whose outcome's elements may be written -/
 rowApp:FuncId->Nat->Nat->Bool
 /-- boxes that are frozen at once -/
 fzBox:FuncId->Nat->Nat->Bool
 /-- functions of one slice that are asked twice where it is empty: of nil,and of what is not nil -/
 split:FuncId->Bool
def Bt (f:FuncId) (rid i:Nat):Nat:=f * 1048576+rid * 1024+i
structure Env where
 P:Program
 T:TypeId->Option TI
 pol:Pol
section
variable (E:Env)
def AI (slots:List IV):Operand->IV
 | .tmp t=>slots.getD t .dead
 | .const v=>Lw v
 | .global _=>.dead
 | .func f=>.fv (.func (.func f) [] [])
def TL:IV->Option Value
 | .fv (.bool b)=>some (.bool b)
 | .fv (.int k n)=>some (.int k n)
 | .fv (.str s)=>some (.string s)
 | _=>none
def IN:Value->Option IV
 | .bool b=>some (.fv (.bool b))
 | .int k n=>some (.fv (.int k n))
 | .string s=>some (.fv (.str s))
 | _=>none
def GO:Sem Value->Option Value
 | .pure v=>some v
 | _=>none
def Y3:IV->Option Bool
 | .fv .nilp=>some true
 | .fv (.fp ..)=>some false
 | .ptr ..=>some false
 | _=>none
def fM:IV->Option Bool
 | .fv .nilf=>some true
 | .fv (.func ..)=>some false
 | .func ..=>some false
 | _=>none
def SO:IV->Option Bool
 | .nils=>some true
 | .emp=>some false
 | .slc ..=>some false
 | .clip (_::_)=>some false
 | .app _ (_::_)=>some false
 | .fv (.sl (_::_))=>some false
 | _=>none
def OB (op:BinOp) (b:Bool):Option IV :=
 match op with
 | .eql=>some (.fv (.bool b))
 | .neq=>some (.fv (.bool !b))
 | _=>none
def EQ (op:BinOp) (t:TypeId) (x y:IV):Option IV :=
 match x,y with
 | .fv (.int k a),.fv (.int l b)=>(GO (binOp op t (.int k a) (.int l b))).bind IN
 | .fv (.str a),.fv (.str b)=>(GO (binOp op t (.string a) (.string b))).bind IN
 | .fv (.bool a),.fv (.bool b)=>match E.T t with
  | some ⟨_,_,.bool,_⟩=>OB op (a == b)
  | _=>none
 | x,.fv .nilp=>match E.T t with
  | some ⟨_,_,.ptr,_⟩=>(Y3 x).bind (OB op)
  | _=>none
 | x,.fv .nilf=>match E.T t with
  | some ⟨_,_,.func,_⟩=>(fM x).bind (OB op)
  | _=>none
 | x,.nils=>match E.T t with
  | some ⟨_,_,.slice _,_⟩=>(SO x).bind (OB op)
  | _=>none
 | _,_=>none
def Kb (op:UnOp) (x:IV):Option IV:=(TL x).bind fun v=>(GO (Op.unary op v)).bind IN
def Co:IV->Option (List FV)
 | .nils=>some []
 | .emp=>some []
 | .clip es=>some es
 | .app _ es=>some es
 | .fv (.sl es)=>some es
 | _=>none
def H7:List FV->ByteArray->Option ByteArray
 | [],s=>some s
 | .int .u8 n::l,s=>H7 l (s.push (UInt8.ofNat n.toNat))
 | _::_,_=>none
def Js (s d:TypeId) (x:IV):Option IV :=
 match E.T s,E.T d,x with
 | some _,some ⟨_,_,.int k,_⟩,.fv (.int _ n)=>some (.fv (.int k (k.wrap n)))
 | some _,some ⟨_,_,.str,_⟩,.fv (.str s)=>some (.fv (.str s))
 | some ⟨_,_,.slice e,_⟩,some ⟨_,_,.str,_⟩,x=>match E.T e,Co x with
  | some ⟨_,_,.int .u8,_⟩,some es=>(H7 es .empty).map fun s=>.fv (.str s)
  | _,_=>none
 | _,_,_=>none
def Bk:List IV->Nat->List IV->List IV
 | cs,_,[]=>cs
 | cs,o,v::l=>Bk (cs.set o v) (o+1) l
def CQ (place:Nat->Option (Nat×Nat)) (cells:List IV):List (Nat×IV)->Option (List IV)
 | []=>some cells
 | (i,v)::rest=>match place i with
  | none=>none
  | some (off,size)=>if v.alive/\v.cells.length=size/\off+size<=cells.length then CQ place (Bk cells off v.cells) rest else none
def EK (fields:List (Nat×TypeId)) (i:Nat):Option (Nat×Nat) :=(fields[i]?).bind fun (o,t)=>(E.T t).map fun ti=>(o,ti.size)
def Cv (agg:Bool) (size off:Nat) (cells:List IV):Option IV :=
 if agg then (if off+size<=cells.length then some (Fr ((cells.drop off).take size)) else none)
 else cells[off]?
def BL (agg:Bool) (size off:Nat) (cells:List FV):Option FV :=
 if agg then (if off+size<=cells.length then some (.agg ((cells.drop off).take size)) else none)
 else cells[off]?
def Nz:Nat->List IV->List IV
 | 0,_=>[]
 | n+1,z=>z++Nz n z
def Qm:List FV->FV
 | [.agg l]=>.agg [.agg l]
 | [x]=>x
 | l=>.agg l
def Ce (sz:Nat):Nat->List FV->List FV
 | 0,_=>[]
 | n+1,cs=>Qm (cs.take sz)::Ce sz n (cs.drop sz)
mutual
/-- A value frozen,and the blocks of the call's own that are frozen with it. -/
def Db:Nat->IV->Rd (FV×List (Ref×Blk))
 | 0,_=>.fail
 | _+1,.fv v=>.ret (v,[])
 | _+1,.nils=>.ret (.sl [],[])
 | _+1,.emp=>.ret (.sl [],[])
 | _+1,.clip es=>.ret (.sl es,[])
 | _+1,.app _ es=>.ret (.sl es,[])
 | n+1,.ptr (.own k) off=>.get (.own k) fun
  | .row cells _=>(frzL n cells).bind fun (cs,u)=>.ret (.fp cs off,(.own k,.row cells true)::u)
  | _=>.fail
 | n+1,.slc (.own k) sz len=>.get (.own k) fun
  | .row cells _=>if sz=0\/cells.length<len * sz then .fail else
    (frzL n cells).bind fun (cs,u)=>.ret (.sl (Ce sz len cs),(.own k,.row cells true)::u)
  | _=>.fail
 | n+1,.func fn a b=>(frzL n a).bind fun (x,u)=>(frzL n b).bind fun (y,v)=>.ret (.func fn x y,u++v)
 | n+1,.agg cs=>(frzL n cs).bind fun (x,u)=>.ret (.agg x,u)
 | n+1,.tuple cs=>(frzL n cs).bind fun (x,u)=>.ret (.tuple x,u)
 | _+1,_=>.fail
def frzL:Nat->List IV->Rd (List FV×List (Ref×Blk))
 | 0,_=>.fail
 | _+1,[]=>.ret ([],[])
 | n+1,v::l=>(Db n v).bind fun (x,u)=>(frzL n l).bind fun (xs,us)=>.ret (x::xs,u++us)
end
def IV.refs:IV->List Ref
 | .ptr r _=>[r]
 | .slc r _ _=>[r]
 | .app r _=>[r]
 | .mapr r=>[r]
 | .func _ a b=>refsL a++refsL b
 | .agg cs=>refsL cs
 | .tuple cs=>refsL cs
 | _=>[]
where
 refsL:List IV->List Ref
  | []=>[]
  | v::l=>v.refs++refsL l
def Blk.refs:Blk->List Ref
 | .row cells _=>IV.refs.refsL cells
 | .tok ..=>[]
 | .map es=>IV.refs.refsL (es.map (·.2))
def IV.ren (f:Ref->Option Ref):IV->Option IV
 | .ptr r o=>(f r).map fun r=>.ptr r o
 | .slc r sz n=>(f r).map fun r=>.slc r sz n
 | .app r es=>(f r).map fun r=>.app r es
 | .mapr r=>(f r).map .mapr
 | .func fn a b=>(renL f a).bind fun a=>(renL f b).map fun b=>.func fn a b
 | .agg cs=>(renL f cs).map .agg
 | .tuple cs=>(renL f cs).map .tuple
 | .dead=>some .dead
 | .fv v=>some (.fv v)
 | .nils=>some .nils
 | .emp=>some .emp
 | .clip es=>some (.clip es)
where
 renL (f:Ref->Option Ref):List IV->Option (List IV)
  | []=>some []
  | v::l=>(v.ren f).bind fun v=>(renL f l).map fun l=>v::l
def Blk.ren (f:Ref->Option Ref):Blk->Option Blk
 | .row cells ro=>(IV.ren.renL f cells).map fun cells=>.row cells ro
 | .tok n sz=>some (.tok n sz)
 | .map es=>(IV.ren.renL f (es.map (·.2))).map fun vs=>.map ((es.map (·.1)).zip vs)
def Bi (f:Ref->Option Ref):List Blk->Option (List Blk)
 | []=>some []
 | b::l=>(b.ren f).bind fun b=>(Bi f l).map fun l=>b::l
def hasRef (r:Ref):List (Ref×Blk)->Bool
 | []=>false
 | (s,_)::l=>decide (r=s) || hasRef r l
def B6:Nat->List Ref->List (Ref×Blk)->Rd (List (Ref×Blk))
 | 0,_,_=>.fail
 | _+1,[],done=>.ret done
 | n+1,r::rest,done =>
  if hasRef r done then B6 n rest done
  else .get r fun b=>B6 n (rest++b.refs) (done++[(r,b)])
def Cu (r:Ref):List (Ref×Blk)->Nat->Option Nat
 | [],_=>none
 | (s,_)::l,j=>if r=s then some j else Cu r l (j+1)
def DO (l:List (Ref×Blk)) (r:Ref):Option Ref:=(Cu r l 0).map .ext
def CF (l:List (Ref×Blk)):Ref->Option Ref
 | .ext j=>(l[j]?).map (·.1)
 | .own _=>none
def BA:List Bool->List IV->Rd (List IV×List Ref×List (Ref×Blk))
 | _,[]=>.ret ([],[],[])
 | true::ks,v::l=>(BA ks l).bind fun (vs,rs,u)=>.ret (v::vs,v.refs++rs,u)
 | false::ks,v::l=>(Db 4096 v).bind fun (x,u)=>(BA ks l).bind fun (vs,rs,u')=>.ret (.fv x::vs,rs,u++u')
 | [],v::l=>(Db 4096 v).bind fun (x,u)=>(BA [] l).bind fun (vs,rs,u')=>.ret (.fv x::vs,rs,u++u')
abbrev Ai:=FuncId->List IV->Hp->Option (IV×Hp)
def HG (f:FuncId) (res:IV) (hp:Hp):Option IV :=if E.pol.raw f then some res else ((Db 4096 res).run hp).map fun (v,_)=>.fv v
def Cz:Option (IV×Hp)->Bool
 | some (.nils,⟨_,[]⟩)=>true
 | some (.emp,⟨_,[]⟩)=>true
 | some (.clip [],⟨_,[]⟩)=>true
 | some (.fv (.sl []),⟨_,[]⟩)=>true
 | _=>false
def asked (ih:Ai) (f:FuncId) (args:List IV) (ext:List Blk):Option (IV×Hp) :=
 if E.pol.split f then match args,ext with
  | [.fv (.sl [])],[]=>if Cz (ih f [.nils] ⟨[],[]⟩) && Cz (ih f [.emp] ⟨[],[]⟩) then some (.fv (.sl []),⟨[],[]⟩) else none
  | _,_=>ih f args ⟨[],ext⟩
 else ih f args ⟨[],ext⟩
def Bz (l:List (Ref×Blk)):List Ref:=l.map (·.1)
def GR (ih:Ai) (f:FuncId) (args:List IV):Rd Eff :=
 (BA (E.pol.keep f) args).bind fun (vs,rs,u) =>
 (B6 4096 rs []).bind fun l =>
 Rd.of ((IV.ren.renL (DO l) vs).bind fun vs'=>(Bi (DO l) (l.map (·.2))).bind fun ext =>
  (asked E ih f vs' ext).bind fun (res,hp) =>
  (HG E f res hp).bind fun res=>(res.ren (CF l)).bind fun res=>(Bi (CF l) hp.ext).bind fun ext' =>
  if ext'.length=l.length/\(Bz u).all (fun r=>!hasRef r l) then some { val:=res,upd:=u++(Bz l).zip ext' } else none)
def Wm:List Ref->Bool
 | []=>true
 | .ext _::l=>Wm l
 | .own _::_=>false
def Fp (r:Ref) (v:IV):Bool:=match r with | .ext _=>Wm v.refs | .own _=>true
def BG (s:Nat):List FV->Bool
 | []=>true
 | e::_=>e.cells.length == s
def lenOf:IV->Option Nat
 | .slc _ _ n=>some n
 | .fv (.str s)=>some s.size
 | v=>(Co v).map (·.length)
def Ih (v:IV) (n:Nat):Option Nat :=
 match v with
 | .fv (.int _ i)=>if 0<=i/\i<=(n:Int) then some i.toNat else none
 | _=>none
def FM (v:Option IV) (n d:Nat):Option Nat:=match v with | none=>some d | some v=>Ih v n
def CK (n:Int) (v:IV):List (Int×IV)->List (Int×IV)
 | []=>[(n,v)]
 | (j,x)::l=>if n=j then (j,v)::l else (j,x)::CK n v l
def Do (n:Int):List (Int×IV)->Option IV
 | []=>none
 | (j,x)::l=>if n=j then some x else Do n l
def PC (ti:TI):Option IV:=if ti.kind.isAgg then some (Fr ti.zero) else match ti.zero with | [x]=>some x | _=>none
structure Made where
 eff:Eff
 new:Option Blk:=none
def Rd.eff (r:Rd Eff):Rd Made:=r.bind fun e=>.ret { eff:=e }
def val (v:IV):Rd Made:=.ret { eff:={ val:=v } }
def Gv (v:Option IV):Rd Made:=match v with | some v=>val v | none=>.fail
def DE (k:Nat) (t:TypeId) (xt:Option TypeId) (row:Bool) (s x:IV):Rd Made :=
 match E.T t,xt.bind E.T with
 | some ⟨
     _,_,.slice e,_⟩,some ⟨_,_,.slice _,_⟩=>match E.T e with
  | none=>.fail
  | some ei=>(Db 4096 x).bind fun (fx,u)=>match fx with
   | .sl es2 =>
    if ei.size=0\/BG ei.size es2=false then .fail else
    match Co s with
    | none=>.fail
    | some es =>
     if BG ei.size es=false\/(es.length+es2.length) * ei.bytes > 140737488355328\/es.length+es2.length > 1073741824 then .fail else
     match s with
     | .nils | .clip _ =>
      if es2.isEmpty then .ret { eff:={ val:=s,upd:=u } }
      else if row then .ret { eff:={ val:=.slc (.own k) ei.size (es++es2).length,upd:=u },new:=some (.row (((es++es2).flatMap FV.cells).map .fv) false) }
      else .ret { eff:={ val:=.app (.own k) (es++es2),upd:=u },new:=some (.tok (es++es2).length ei.size) }
     | .app r _=>.get r fun
      | .tok n sz=>if n=es.length/\sz=ei.size/\(es2.all fun e=>e.cells.all FV.one)=true then
        .ret { eff:={ val:=.app r (es++es2),upd:=u++[(r,.tok (n+es2.length) sz)] } } else .fail
      | _=>.fail
     | _=>.fail
   | _=>.fail
 | _,_=>.fail
def AU (k:Nat) (row:Bool) (b:Builtin) (ts:List TypeId) (args:List IV):Rd Made :=
 match b,ts,args with
 | .len,[t],[x]=>match E.T t,x with
  | some ⟨_,_,.str,_⟩,.fv (.str s)=>val (.fv (.int .i64 s.size))
  | some ⟨_,_,.slice _,_⟩,x=>match x with
   | .slc _ _ n=>val (.fv (.int .i64 n))
   | x=>Gv ((Co x).map fun es=>.fv (.int .i64 es.length))
  | _,_=>.fail
 | .append,[t,xt],[s,x]=>DE E k t (some xt) row s x
 | .max,_,[.fv (.int k x),.fv (.int _ y)]=>val (.fv (.int k (if y > x then y else x)))
 | .min,_,[.fv (.int k x),.fv (.int _ y)]=>val (.fv (.int k (if y<x then y else x)))
 | _,_,_=>.fail
def KF (t:TypeId) (x i:IV):Rd Made :=
 match E.T t,i with
 | some ⟨
     _,_,.slice e,_⟩,.fv (.int _ n)=>match E.T e with
  | none=>.fail
  | some ei=>match x with
   | .slc r sz len=>if 0<=n/\n<(len:Int)/\sz=ei.size then val (.ptr r (n.toNat * sz)) else .fail
   | x=>match Co x with
    | none=>.fail
    | some es=>if n<0 then .fail else match es[n.toNat]? with
     | some el=>if el.cells.length=ei.size then val (.fv (.fp el.cells 0)) else .fail
     | none=>.fail
 | some ⟨_,_,.arr m e,_⟩,.fv (.int _ n)=>match E.T e with
  | none=>.fail
  | some ei=>if 0<=n/\n<(m:Int) then match x with
   | .ptr r o=>val (.ptr r (o+n.toNat * ei.size))
   | .fv (.fp cells o)=>val (.fv (.fp cells (o+n.toNat * ei.size)))
   | _=>.fail else .fail
 | _,_=>.fail
def IA (
      t:TypeId) (x:IV) (lo hi mx:Option IV):Rd Made :=
 match E.T t with
 | some ⟨_,_,.str,_⟩=>match x,mx with
  | .fv (.str s),none=>Gv ((FM hi s.size s.size).bind fun h=>(FM lo h 0).map fun l=>.fv (.str (s.extract l h)))
  | _,_=>.fail
 | some ⟨
     _,_,.slice e,_⟩=>match E.T e with
  | none=>.fail
  | some ei=>(Db 4096 x).bind fun (fx,u)=>match fx with
   | .sl es=>if BG ei.size es=false then .fail else
    match mx with
    | none=>match (FM hi es.length es.length).bind fun h=>(FM lo h 0).map fun l=>(l,h) with
     | some (l,h)=>.ret { eff:={ val:=.fv (.sl ((es.drop l).take (h - l))),upd:=u } }
     | none=>.fail
    | some m=>match hi with
     | none=>.fail
     | some hv=>match (Ih m es.length).bind fun m=>(Ih hv m).bind fun h=>(FM lo h 0).bind fun l=>if m=h then some (l,h) else none with
      | some (l,h)=>.ret { eff:={ val:=.clip ((es.drop l).take (h - l)),upd:=u } }
      | none=>.fail
   | _=>.fail
 | _=>.fail
def Hj (s:TypeId) (i:Nat):Option (Nat×TI) :=
 match E.T s with
 | some ⟨_,_,.struct fs,_⟩=>(fs[i]?).bind fun (o,t)=>(E.T t).map fun ti=>(o,ti)
 | _=>none
def callee:IV->Option (FuncId×List IV×List IV)
 | .fv (.func (.func f) a b)=>some (f,a.map .fv,b.map .fv)
 | .func (.func f) a b=>some (f,a,b)
 | _=>none
def Da (ih:Ai) (f:FuncId) (rid i:Nat) (ρ:Operand->IV) (o:Op):Rd Made :=
 match o with
 | .move x | .assign x=>val (ρ x)
 | .pick c a b=>match ρ c with
  | .fv (.bool t)=>val (if t then ρ a else ρ b)
  | _=>.fail
 | .alloc t=>match E.T t with
  | some ti=>.ret { eff:={ val:=.ptr (.own (Bt f rid i)) 0 },new:=some (.row ti.zero false) }
  | none=>.fail
 | .box _ x =>
  let v:=ρ x
  if v.alive=false then .fail else
  if E.pol.fzBox f rid i then (frzL 4096 v.cells).bind fun (vs,u)=>.ret { eff:={ val:=.fv (.fp vs 0),upd:=u } }
  else .ret { eff:={ val:=.ptr (.own (Bt f rid i)) 0 },new:=some (.row v.cells false) }
 | .build t parts=>match E.T t with
  | some ⟨_,_,.struct fs,z⟩=>Gv ((CQ (EK E fs) z (parts.toList.map fun (j,x)=>(j,ρ x))).map Fr)
  | some ⟨_,_,.arr _ e,z⟩=>match E.T e with
   | some ei=>Gv ((CQ (fun j=>some (j * ei.size,ei.size)) z (parts.toList.map fun (j,x)=>(j,ρ x))).map Fr)
   | none=>.fail
  | _=>.fail
 | .buildSlice t len parts=>match E.T t with
  | some ⟨_,_,.slice e,_⟩=>match E.T e with
   | some ei=>if ei.size=0\/len * ei.size > 65536 then .fail else
    match CQ (fun j=>some (j * ei.size,ei.size)) (Nz len ei.zero) (parts.toList.map fun (j,x)=>(j,ρ x)) with
    | some cells=>(frzL 65536 cells).bind fun (vs,u)=>.ret { eff:={ val:=.clip (Ce ei.size len vs),upd:=u } }
    | none=>.fail
   | none=>.fail
  | _=>.fail
 | .load t a=>match E.T t with
  | none=>.fail
  | some ti=>match ρ a with
   | .ptr r off=>.get r fun
    | .row cells _=>Gv (Cv ti.kind.isAgg ti.size off cells)
    | _=>.fail
   | .fv (.fp cells off)=>Gv ((BL ti.kind.isAgg ti.size off cells).map .fv)
   | _=>.fail
 | .store t a x=>match E.T t with
  | none=>.fail
  | some ti=>match ρ a with
   | .ptr r off=>.get r fun
    | .row cells false =>
     let v:=ρ x
     if v.alive/\v.cells.length=ti.size/\off+ti.size<=cells.length/\v.cells.all IV.one/\Fp r v then
      .ret { eff:={ val:=.dead,upd:=[(r,.row (Bk cells off v.cells) false)] } }
     else .fail
    | _=>.fail
   | _=>.fail
 | .nilCheck x=>match ρ x with
  | .ptr r o=>val (.ptr r o)
  | .fv (.fp cs o)=>val (.fv (.fp cs o))
  | .func (.func g) a b=>val (.func (.func g) a b)
  | .fv (.func (.func g) a b)=>val (.fv (.func (.func g) a b))
  | _=>.fail
 | .binOp op t x y _=>Gv (EQ E op t (ρ x) (ρ y))
 | .unOp op _ x=>Gv (Kb op (ρ x))
 | .convert s d x=>Gv (Js E s d (ρ x))
 | .makeFunc fn a b=>val (CJ fn (a.toList.map ρ) (b.toList.map ρ))
 | .makeMap _ none=>.ret { eff:={ val:=.mapr (.own (Bt f rid i)) },new:=some (.map []) }
 | .insert t m k x | .mapUpdate t m k x=>match E.T t with
  | some ⟨_,_,.map kt _,_⟩=>match E.T kt,ρ m,ρ k with
   | some ⟨_,_,.int .i64,_⟩,.mapr r,.fv (.int .i64 n)=>.get r fun
    | .map es =>
     let v:=ρ x
     if v.alive/\Fp r v then .ret { eff:={ val:=.dead,upd:=[(r,.map (CK n v es))] } } else .fail
    | _=>.fail
   | _,_,_=>.fail
  | _=>.fail
 | .lookup t m k ok=>match E.T t with
  | some ⟨
      _,_,.map kt et,_⟩=>match E.T kt,E.T et,ρ m,ρ k with
   | some ⟨_,_,.int .i64,_⟩,some ei,.mapr r,.fv (.int .i64 n)=>.get r fun
    | .map es=>match Do n es with
     | some v=>val (if ok then CL [v,.fv (.bool true)] else v)
     | none=>match PC ei with
      | some z=>val (if ok then CL [z,.fv (.bool false)] else z)
      | none=>.fail
    | _=>.fail
   | _,_,_,_=>.fail
  | _=>.fail
 | .makeSlice t l c=>match E.T t with
  | some ⟨_,_,.slice e,_⟩=>match E.T e,ρ l,ρ c with
   | some ei,.fv (.int .i64 a),.fv (.int .i64 b) =>
    if 0<=a/\a<=b/\b<=1048576/\ei.size≠0/\ei.bytes<=65536 then
     .ret { eff:={ val:=.slc (.own (Bt f rid i)) ei.size a.toNat },new:=some (.row (Nz b.toNat ei.zero) false) }
    else .fail
   | _,_,_=>.fail
  | _=>.fail
 | .slice t x lo hi mx=>IA E t (ρ x) (lo.map ρ) (hi.map ρ) (mx.map ρ)
 | .fieldAddr s x fd=>match Hj E s fd with
  | some (o,ti)=>if ti.size=0 then .fail else match ρ x with
   | .ptr r off=>val (.ptr r (off+o))
   | .fv (.fp cs off)=>val (.fv (.fp cs (off+o)))
   | _=>.fail
  | none=>.fail
 | .field s x fd=>match Hj E s fd with
  | some (o,ti)=>match ρ x with
   | .agg cs=>Gv (Cv ti.kind.isAgg ti.size o cs)
   | .fv (.agg cs)=>Gv ((BL ti.kind.isAgg ti.size o cs).map .fv)
   | _=>.fail
  | none=>.fail
 | .indexAddr t x ix=>KF E t (ρ x) (ρ ix)
 | .index t x ix=>match E.T t,ρ x,ρ ix with
  | some ⟨_,_,.str,_⟩,.fv (.str s),.fv (.int _ n)=>if n<0 then .fail else match s[n.toNat]? with
   | some b=>val (.fv (.int .u8 b.toNat))
   | none=>.fail
  | some ⟨_,_,.arr m e,_⟩,.fv (.agg cs),.fv (.int _ n)=>match E.T e with
   | some ei=>if 0<=n/\n<(m:Int) then Gv ((BL ei.kind.isAgg ei.size (n.toNat * ei.size) cs).map .fv) else .fail
   | none=>.fail
  | _,_,_=>.fail
 | .extract x ix=>match ρ x with
  | .tuple vs=>Gv (vs[ix]?)
  | .fv (.tuple vs)=>Gv ((vs[ix]?).map .fv)
  | _=>.fail
 | .call { callee:=.builtin b,args,argTypes }=>AU E (Bt f rid i) (E.pol.rowApp f rid i) b argTypes.toList (args.toList.map ρ)
 | .call { callee:=.value g,args,.. }=>match callee (ρ g) with
  | some (h,first,cap)=>if E.pol.inl h then .fail else (GR E ih h (first++args.toList.map ρ++cap)).eff
  | none=>.fail
 | _=>.fail
def Ee (ih:Ai) (f:FuncId) (rid i:Nat) (slots:List IV) (o:Op):Rd Made:=Da E ih f rid i (AI slots) o
structure St where
 slots:List IV
 hp:Hp
 deriving Inhabited
def Ck (d:Option Nat) (v:IV) (slots:List IV):List IV:=match d with | some d=>slots.set d v | none=>slots
def Fw:IV:=.fv (.tuple [])
def Dj (ops:Array Oper) (slots:List IV) (o:Oper):Option Bool :=
 match o.guard with
 | none=>some true
 | some (j,want)=>match ((ops[j]?).bind (·.dst)).bind (slots[·]?) with
  | some (.fv (.bool b))=>some (b == want)
  | some (.fv (.tuple []))=>some false
  | _=>none
def laid (h:Hp):List (Ref×Blk)->Option Hp
 | []=>some h
 | (r,b)::l=>match h.get r with
  | some _=>laid (h.set r b) l
  | none=>none
def CU (k:Nat) (m:Made) (h:Hp):Option Hp :=
 match m.new with
 | none=>some h
 | some b=>match h.get (.own k) with
  | some _=>none
  | none=>some (h.set (.own k) b)
def A4 (k:Nat) (h:Hp) (m:Made):Option Hp:=(laid h m.eff.upd).bind (CU k m)
def En (k:Nat) (d:Option Nat) (S:St) (m:Made):Option St :=(A4 k S.hp m).map fun h=>⟨Ck d m.eff.val S.slots,h⟩
def EF (slots:List IV):Op->Option (FuncId×List IV)
 | .call { callee:=.value g,args,.. }=>match callee (AI slots g) with
  | some (h,first,cap)=>if E.pol.inl h then some (h,first++args.toList.map (AI slots)++cap) else none
  | none=>none
 | _=>none
def step (ih:Ai) (f:FuncId) (rid:Nat) (ops:Array Oper) (i:Nat) (S:St):Option St :=
 match ops[i]? with
 | none=>some S
 | some o=>match Dj ops S.slots o with
  | none=>none
  | some false=>some { S with slots:=Ck o.dst Fw S.slots }
  | some true=>match EF E S.slots o.op with
   | some (h,args)=>(ih h args S.hp).map fun (v,hp)=>⟨Ck o.dst v S.slots,hp⟩
   | none=>((Ee E ih f rid i S.slots o.op).run S.hp).bind (En (Bt f rid i) o.dst S)
def ID (ih:Ai) (f:FuncId) (rid:Nat) (ops:Array Oper):List Nat->St->Option St
 | [],S=>some S
 | i::l,S=>(step E ih f rid ops i S).bind (ID ih f rid ops l)
def I2 (ih:Ai) (f:FuncId) (rid:Nat) (ops:Array Oper) (i:Nat) (S:St):Option (St×List Ref×List Ref) :=
 match ops[i]? with
 | none=>some (S,[],[])
 | some o=>match Dj ops S.slots o with
  | none=>none
  | some false=>some ({ S with slots:=Ck o.dst Fw S.slots },[],[])
  | some true=>match EF E S.slots o.op with
   | some _=>none
   | none=>match (Ee E ih f rid i S.slots o.op).runLog S.hp [] with
    | none=>none
    | some (m,rd)=>(En (Bt f rid i) o.dst S m).map fun S' =>(S',rd,Bz m.eff.upd++(match m.new with | some _=>[.own (Bt f rid i)] | none=>[]))
def MS (a b:List Ref):Bool:=a.all fun r=>b.all fun s=>decide (r≠s)
def clash (p q:List Ref×List Ref):Bool:=MS p.2 q.1 && MS p.2 q.2 && MS q.2 p.1
def E6 (ih:Ai) (f:FuncId) (rid:Nat) (ops:Array Oper) (before:Array Nat):List Nat->List (Nat×List Ref×List Ref)->St->Option St
 | [],_,S=>some S
 | i::l,done,S=>match I2 E ih f rid ops i S with
  | none=>none
  | some (S',p)=>if done.all fun (j,q)=>(before.getD i 0).testBit j || clash q p then E6 ih f rid ops before l ((i,p)::done) S' else none
inductive Ex where
 | normal
 | exit (id:Nat)
 | ret
 deriving Inhabited
def Cn:Code->Nat
 | .region id _ _=>id
 | .seq a _=>Cn a
 | .cond _ a _=>Cn a
 | .block _ c=>Cn c
 | .loop c=>Cn c
 | _=>0
def anyIn (rs:List Nat):List Ref->Bool
 | []=>false
 | .own k::l=>rs.contains k || anyIn rs l
 | .ext _::l=>anyIn rs l
def Dc (S:St):List Ref:=IV.refs.refsL S.slots++S.hp.own.flatMap (fun p=>p.2.refs)++S.hp.ext.flatMap Blk.refs
def Bh:List Nat->List IV->List IV
 | [],l=>l
 | i::is,l=>Bh is (l.set i .dead)
def CT (base kills rm:List Nat) (S:St):Option St :=
 if rm.any base.contains then none else
 let S1:St:={ S with slots:=Bh kills S.slots }
 if S1.hp.own.all (fun p=>!rm.contains p.1) then some S1 else
 let held:=IV.refs.refsL S1.slots++(S1.hp.own.filter fun p=>!rm.contains p.1).flatMap (fun p=>p.2.refs)++S1.hp.ext.flatMap Blk.refs
 let gone:=rm.filter fun k=>!anyIn [k] held
 let S2:St:={ S1 with hp:={ S1.hp with own:=S1.hp.own.filter fun p=>!gone.contains p.1 } }
 if anyIn gone (Dc S2) then none else some S2
def iterate (head:St->Option St) (body:St->Option (Ex×St)):Nat->St->Option (Ex×St)
 | 0,_=>none
 | k+1,S=>(head S).bind fun S=>match body S with
  | some (.normal,S')=>iterate head body k S'
  | r=>r
def DU (ih:Ai) (f:FuncId) (k:Nat) (base:List Nat):Code->St->Option (Ex×St)
 | .skip,S=>some (.normal,S)
 | .region rid ops draw,S =>(if draw then E6 E ih f rid ops (Region.before ops) (List.range ops.size) [] S else ID E ih f rid ops (List.range ops.size) S).map fun S=>(.normal,S)
 | .seq a b,S=>match DU ih f k base a S with
  | some (.normal,S')=>DU ih f k base b S'
  | r=>r
 | .cond c a b,S=>match AI S.slots c with
  | .fv (.bool true)=>DU ih f k base a S
  | .fv (.bool false)=>DU ih f k base b S
  | _=>none
 | .block id c,S=>match DU ih f k base c S with
  | some (.exit j,S')=>if j=id then some (.normal,S') else some (.exit j,S')
  | r=>r
 | .loop c,S =>
  let h:=E.pol.head f (Cn c)
  iterate (CT base h.1 h.2) (DU ih f k base c) k S
 | .exit id,S=>some (.exit id,S)
 | .ret,S=>some (.ret,S)
 | _,_=>none
def Iw (S:St):ResultVar->Option IV
 | .tmp t=>some (S.slots.getD t .dead)
 | .cell a t=>match E.T t,S.slots.getD a .dead with
  | some ti,.ptr r off=>match S.hp.get r with
   | some (.row cells _)=>Cv ti.kind.isAgg ti.size off cells
   | _=>none
  | some ti,.fv (.fp cells off)=>(BL ti.kind.isAgg ti.size off cells).map .fv
  | _,_=>none
def FX (S:St):List ResultVar->Option (List IV)
 | []=>some []
 | r::l=>(Iw E S r).bind fun v=>(FX S l).map fun vs=>v::vs
def Gj (S:St) (rs:List ResultVar):Option IV :=
 (FX E S rs).map fun
  | [v]=>v
  | vs=>CL vs
def run:Nat->Ai
 | 0,_,_,_=>none
 | n+1,f,args,hp=>match E.P.funcs[f]? with
  | none=>none
  | some fn=>match fn.body with
   | none=>none
   | some c=>match DU E (run n) f n (hp.own.map (·.1)) c ⟨args++List.replicate (fn.ntmps - args.length) .dead,hp⟩ with
    | some (.ret,S) | some (.normal,S)=>(Gj E S fn.results.toList).map fun v=>(v,S.hp)
    | _=>none
end
def regionOk (ops:Array Oper):Bool :=
 let b:=Region.before ops
 (List.range ops.size).all fun i=>match ops[i]? with
  | none=>false
  | some o=>(o.after.toList.all fun e=>!Region.binds .any e || decide (e.on<i)) &&
   (List.range ops.size).all fun j =>
    (!(b.getD i 0).testBit j || (decide (j<i) && o.after.toList.any fun e=>Region.binds .any e && (decide (e.on=j) || (b.getD e.on 0).testBit j))) &&
    (decide (i<=j) || (b.getD i 0).testBit j || (match ops[j]? with | some p=>p.apart ops o | none=>false))
def DD:Code->Bool
 | .region _ ops d=>!d || regionOk ops
 | .seq a b=>DD a && DD b
 | .cond _ a b=>DD a && DD b
 | .block _ c=>DD c
 | .loop c=>DD c
 | _=>true
end Idl
end Go.Proofs.YtnenpcghegcnhaaGreat
