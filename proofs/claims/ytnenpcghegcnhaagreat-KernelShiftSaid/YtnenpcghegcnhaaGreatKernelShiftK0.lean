/- Part 0 of a proof. No statement is proved here. -/
import Derived.Orders
import Derived.Laws.World
set_option linter.all false
set_option maxRecDepth 20000
set_option maxHeartbeats 16000000
noncomputable section
namespace Go.Proofs.YtnenpcghegcnhaaGreat
namespace Idl
theorem psc (n:Nat)(h:0<n):∃k,n=k+1:=⟨n-1,by omega⟩
theorem AiY {a b:Prop}(x:a)(y:b):a∧b:=⟨x,y⟩
def AiZ:=@Option.some.injEq.{0}
def Ai0:=@Prod.mk.injEq.{0,0}
def Ai1:=@Option.map_eq_some_iff.{0,0}
def Ai2:=@Option.map_some.{0,0}
def Ai3:=@List.length_cons.{0}
def Ai4:=@List.map_nil.{0,0}
def Ai5:=@List.map_cons.{0,0}
def Ai6:=@List.getElem?_eq_getElem.{0}
def Ai7:=@List.getElem?_eq_some_iff.{0}
def Ai8:=@List.getElem?_append_right.{0}
def Ai9:=@List.getElem?_append_left.{0}
def Aja:=@List.eq_nil_of_length_eq_zero.{0}
def Ajb:=@List.getElem?_cons_zero.{0}
def Ajc:=@List.getElem?_cons_succ.{0}
def Ajd:=@Array.getD_eq_getD_getElem?.{0}
def Aje:=@List.mem_of_getElem?.{0}
def Ajf:=@List.getD_eq_getElem?_getD.{0}
def Ajg:=@List.length_append.{0}
def Ajh:=@List.length_nil.{0}
def Aji:=@List.mem_cons_self.{0}
def Ajj:=@List.mem_cons_of_mem.{0}
def Ajk:=@List.mem_append.{0}
def Ajl:=@List.all_eq_true.{0}
def Ajm:=@List.append_nil.{0}
def Ajn:=@Option.some.inj.{0}
def Ajo:=@List.nil_append.{0}
def Ajp:=@List.mem_cons.{0}
def Ajq:=@List.cons_append.{0}
def Ajr:=@List.length_eq_zero_iff.{0}
def Ajs:=@List.append_assoc.{0}
def Ajt:=@Option.bind_some.{0,0}
def Aju:=@Option.bind_eq_some_iff.{0,0}
def Ajv:=@List.getElem?_map.{0,0}
def Ajw:=@List.length_map.{0,0}
def Ajx:=@Bool.false_eq_true
def Ajy:=@Nat.zero_add
def Ajz:=@Bool.and_eq_true
def AjA:=@Nat.le_refl
def AjB:=@Nat.add_zero
end Idl
end Go.Proofs.YtnenpcghegcnhaaGreat
namespace Go.Proofs.YtnenpcghegcnhaaGreat
namespace Idl
inductive FV where
 | bool (b:Bool)
 | int (k:IntKind) (n:Int)
 | str (s:ByteArray)
 | nilp
 | nilf
 | fp (cells:List FV) (off:Nat)
 | sl (elems:List FV)
 | func (fn:Fn) (first captured:List FV)
 | agg (cells:List FV)
 | tuple (vs:List FV)
 deriving Inhabited
inductive Ref where
 | own (k:Nat)
 | ext (j:Nat)
 deriving DecidableEq,Inhabited
inductive IV where
 | dead
 | fv (v:FV)
 | ptr (r:Ref) (off:Nat)
 | slc (r:Ref) (sz len:Nat)
 | nils
 | emp
 | clip (elems:List FV)
 | app (r:Ref) (elems:List FV)
 | func (fn:Fn) (first captured:List IV)
 | agg (cells:List IV)
 | tuple (vs:List IV)
 | mapr (r:Ref)
 deriving Inhabited
inductive Blk where
 | row (cells:List IV) (ro:Bool)
 | tok (len sz:Nat)
 | map (es:List (Int×IV))
 deriving Inhabited
structure Hp where
 own:List (Nat×Blk)
 ext:List Blk
 deriving Inhabited
def Ap (k:Nat):List (Nat×Blk)->Option Blk
 | []=>none
 | (j,b)::l=>if k=j then some b else Ap k l
def AO (k:Nat) (b:Blk):List (Nat×Blk)->List (Nat×Blk)
 | []=>[(k,b)]
 | (j,c)::l=>if k=j then (j,b)::l else (j,c)::AO k b l
def Hp.get (h:Hp):Ref->Option Blk
 | .own k=>Ap k h.own
 | .ext j=>h.ext[j]?
def Hp.set (h:Hp) (r:Ref) (b:Blk):Hp :=
 match r with
 | .own k=>{ h with own:=AO k b h.own }
 | .ext j=>{ h with ext:=h.ext.set j b }
inductive Rd (α:Type) where
 | ret (a:α)
 | fail
 | get (r:Ref) (k:Blk->Rd α)
def Rd.bind {α β:Type}:Rd α->(α->Rd β)->Rd β
 | .ret a,f=>f a
 | .fail,_=>.fail
 | .get r k,f=>.get r fun b=>(k b).bind f
def Rd.run {α:Type}:Rd α->Hp->Option α
 | .ret a,_=>some a
 | .fail,_=>none
 | .get r k,h=>match h.get r with | some b=>(k b).run h | none=>none
def Rd.runLog {α:Type}:Rd α->Hp->List Ref->Option (α×List Ref)
 | .ret a,_,l=>some (a,l)
 | .fail,_,_=>none
 | .get r k,h,l=>match h.get r with | some b=>(k b).runLog h (r::l) | none=>none
def Rd.of {α:Type}:Option α->Rd α
 | some a=>.ret a
 | none=>.fail
structure Eff where
 val:IV
 upd:List (Ref×Blk):=[]
def FV.cells:FV->List FV
 | .agg cs=>cs
 | v=>[v]
def IV.cells:IV->List IV
 | .agg cs=>cs
 | .fv (.agg cs)=>cs.map .fv
 | v=>[v]
def IV.one:IV->Bool
 | .dead | .agg _ | .tuple _ | .fv (.agg _) | .fv (.tuple _)=>false
 | _=>true
def FV.one:FV->Bool
 | .agg _ | .tuple _=>false
 | _=>true
def IV.alive:IV->Bool
 | .dead | .tuple _ | .fv (.tuple _)=>false
 | _=>true
def F8:List IV->Option (List FV)
 | []=>some []
 | .fv v::l=>(F8 l).map (v::·)
 | _::_=>none
def Fp (l:List IV):IV:=match F8 l with | some vs=>.fv (.agg vs) | none=>.agg l
def CL (l:List IV):IV:=match F8 l with | some vs=>.fv (.tuple vs) | none=>.tuple l
def CI (fn:Fn) (a b:List IV):IV :=
 match F8 a,F8 b with
 | some x,some y=>.fv (.func fn x y)
 | _,_=>.func fn a b
def Fu:Value->IV
 | .bool b=>.fv (.bool b)
 | .int k n=>.fv (.int k n)
 | .string s=>.fv (.str s)
 | .pointer none=>.fv .nilp
 | .slice none 0 0=>.nils
 | .nilFunc=>.fv .nilf
 | _=>.dead
def Lt:Value->IV
 | .agg cs=>Fp (cs.toList.map Fu)
 | v=>Fu v
inductive TK where
 | int (k:IntKind) | bool | str | ptr | func
 | slice (elem:TypeId)
 | arr (n:Nat) (elem:TypeId)
 | struct (fields:List (Nat×TypeId))
 | map (key elem:TypeId)
 deriving Inhabited
structure TI where
 size:Nat
 bytes:Nat
 kind:TK
 zero:List IV
 deriving Inhabited
def TK.isAgg:TK->Bool
 | .arr .. | .struct ..=>true
 | _=>false
structure Pol where
 /-- the callee's blocks are laid beside the caller's own -/
 inl:FuncId->Bool
 /-- parameters that are handed on as they are (a pointer to a block that lives on) -/
 keep:FuncId->List Bool
 /-- the result is not frozen -/
 raw:FuncId->Bool
 /-- a loop (by its function and its body's first region): slots and blocks that are dropped at its head -/
 head:FuncId->Nat->List Nat×List Nat
 /-- an append whose outcome's elements may be written -/
 rowApp:FuncId->Nat->Nat->Bool
 /-- boxes that are frozen at once -/
 fzBox:FuncId->Nat->Nat->Bool
 /-- functions of one slice that are asked twice where it is empty: of nil,and of what is not nil -/
 split:FuncId->Bool
def Bt (f:FuncId) (rid i:Nat):Nat:=f * 1048576+rid * 1024+i
structure Env where
 P:Program
 T:TypeId->Option TI
 pol:Pol
section
variable (E:Env)
def AG (slots:List IV):Operand->IV
 | .tmp t=>slots.getD t .dead
 | .const v=>Lt v
 | .global _=>.dead
 | .func f=>.fv (.func (.func f) [] [])
def S9:IV->Option Value
 | .fv (.bool b)=>some (.bool b)
 | .fv (.int k n)=>some (.int k n)
 | .fv (.str s)=>some (.string s)
 | _=>none
def IY:Value->Option IV
 | .bool b=>some (.fv (.bool b))
 | .int k n=>some (.fv (.int k n))
 | .string s=>some (.fv (.str s))
 | _=>none
def GQ:Sem Value->Option Value
 | .pure v=>some v
 | _=>none
def gH:IV->Option Bool
 | .fv .nilp=>some true
 | .fv (.fp ..)=>some false
 | .ptr ..=>some false
 | _=>none
def eA:IV->Option Bool
 | .fv .nilf=>some true
 | .fv (.func ..)=>some false
 | .func ..=>some false
 | _=>none
def TE:IV->Option Bool
 | .nils=>some true
 | .emp=>some false
 | .slc ..=>some false
 | .clip (_::_)=>some false
 | .app _ (_::_)=>some false
 | .fv (.sl (_::_))=>some false
 | _=>none
def PX (op:BinOp) (b:Bool):Option IV :=
 match op with
 | .eql=>some (.fv (.bool b))
 | .neq=>some (.fv (.bool !b))
 | _=>none
def EL (op:BinOp) (t:TypeId) (x y:IV):Option IV :=
 match x,y with
 | .fv (.int k a),.fv (.int l b)=>(GQ (binOp op t (.int k a) (.int l b))).bind IY
 | .fv (.str a),.fv (.str b)=>(GQ (binOp op t (.string a) (.string b))).bind IY
 | .fv (.bool a),.fv (.bool b)=>match E.T t with
  | some ⟨_,_,.bool,_⟩=>PX op (a == b)
  | _=>none
 | x,.fv .nilp=>match E.T t with
  | some ⟨_,_,.ptr,_⟩=>(gH x).bind (PX op)
  | _=>none
 | x,.fv .nilf=>match E.T t with
  | some ⟨_,_,.func,_⟩=>(eA x).bind (PX op)
  | _=>none
 | x,.nils=>match E.T t with
  | some ⟨_,_,.slice _,_⟩=>(TE x).bind (PX op)
  | _=>none
 | _,_=>none
def KE (op:UnOp) (x:IV):Option IV:=(S9 x).bind fun v=>(GQ (Op.unary op v)).bind IY
def Cm:IV->Option (List FV)
 | .nils=>some []
 | .emp=>some []
 | .clip es=>some es
 | .app _ es=>some es
 | .fv (.sl es)=>some es
 | _=>none
def HO:List FV->ByteArray->Option ByteArray
 | [],s=>some s
 | .int .u8 n::l,s=>HO l (s.push (UInt8.ofNat n.toNat))
 | _::_,_=>none
def Jl (s d:TypeId) (x:IV):Option IV :=
 match E.T s,E.T d,x with
 | some _,some ⟨_,_,.int k,_⟩,.fv (.int _ n)=>some (.fv (.int k (k.wrap n)))
 | some _,some ⟨_,_,.str,_⟩,.fv (.str s)=>some (.fv (.str s))
 | some ⟨_,_,.slice e,_⟩,some ⟨_,_,.str,_⟩,x=>match E.T e,Cm x with
  | some ⟨_,_,.int .u8,_⟩,some es=>(HO es .empty).map fun s=>.fv (.str s)
  | _,_=>none
 | _,_,_=>none
def Bh:List IV->Nat->List IV->List IV
 | cs,_,[]=>cs
 | cs,o,v::l=>Bh (cs.set o v) (o+1) l
def CU (place:Nat->Option (Nat×Nat)) (cells:List IV):List (Nat×IV)->Option (List IV)
 | []=>some cells
 | (i,v)::rest=>match place i with
  | none=>none
  | some (off,size)=>if v.alive/\v.cells.length=size/\off+size<=cells.length then CU place (Bh cells off v.cells) rest else none
def EJ (fields:List (Nat×TypeId)) (i:Nat):Option (Nat×Nat) :=(fields[i]?).bind fun (o,t)=>(E.T t).map fun ti=>(o,ti.size)
def Cu (agg:Bool) (size off:Nat) (cells:List IV):Option IV :=
 if agg then (if off+size<=cells.length then some (Fp ((cells.drop off).take size)) else none)
 else cells[off]?
def BN (agg:Bool) (size off:Nat) (cells:List FV):Option FV :=
 if agg then (if off+size<=cells.length then some (.agg ((cells.drop off).take size)) else none)
 else cells[off]?
def NB:Nat->List IV->List IV
 | 0,_=>[]
 | n+1,z=>z++NB n z
def QN:List FV->FV
 | [.agg l]=>.agg [.agg l]
 | [x]=>x
 | l=>.agg l
def B7 (sz:Nat):Nat->List FV->List FV
 | 0,_=>[]
 | n+1,cs=>QN (cs.take sz)::B7 sz n (cs.drop sz)
mutual
/-- A value frozen,and the blocks of the call's own that are frozen with it. -/
def C8:Nat->IV->Rd (FV×List (Ref×Blk))
 | 0,_=>.fail
 | _+1,.fv v=>.ret (v,[])
 | _+1,.nils=>.ret (.sl [],[])
 | _+1,.emp=>.ret (.sl [],[])
 | _+1,.clip es=>.ret (.sl es,[])
 | _+1,.app _ es=>.ret (.sl es,[])
 | n+1,.ptr (.own k) off=>.get (.own k) fun
  | .row cells _=>(frzL n cells).bind fun (cs,u)=>.ret (.fp cs off,(.own k,.row cells true)::u)
  | _=>.fail
 | n+1,.slc (.own k) sz len=>.get (.own k) fun
  | .row cells _=>if sz=0\/cells.length<len * sz then .fail else
    (frzL n cells).bind fun (cs,u)=>.ret (.sl (B7 sz len cs),(.own k,.row cells true)::u)
  | _=>.fail
 | n+1,.func fn a b=>(frzL n a).bind fun (x,u)=>(frzL n b).bind fun (y,v)=>.ret (.func fn x y,u++v)
 | n+1,.agg cs=>(frzL n cs).bind fun (x,u)=>.ret (.agg x,u)
 | n+1,.tuple cs=>(frzL n cs).bind fun (x,u)=>.ret (.tuple x,u)
 | _+1,_=>.fail
def frzL:Nat->List IV->Rd (List FV×List (Ref×Blk))
 | 0,_=>.fail
 | _+1,[]=>.ret ([],[])
 | n+1,v::l=>(C8 n v).bind fun (x,u)=>(frzL n l).bind fun (xs,us)=>.ret (x::xs,u++us)
end
def IV.refs:IV->List Ref
 | .ptr r _=>[r]
 | .slc r _ _=>[r]
 | .app r _=>[r]
 | .mapr r=>[r]
 | .func _ a b=>refsL a++refsL b
 | .agg cs=>refsL cs
 | .tuple cs=>refsL cs
 | _=>[]
where
 refsL:List IV->List Ref
  | []=>[]
  | v::l=>v.refs++refsL l
def Blk.refs:Blk->List Ref
 | .row cells _=>IV.refs.refsL cells
 | .tok ..=>[]
 | .map es=>IV.refs.refsL (es.map (·.2))
def IV.ren (f:Ref->Option Ref):IV->Option IV
 | .ptr r o=>(f r).map fun r=>.ptr r o
 | .slc r sz n=>(f r).map fun r=>.slc r sz n
 | .app r es=>(f r).map fun r=>.app r es
 | .mapr r=>(f r).map .mapr
 | .func fn a b=>(renL f a).bind fun a=>(renL f b).map fun b=>.func fn a b
 | .agg cs=>(renL f cs).map .agg
 | .tuple cs=>(renL f cs).map .tuple
 | .dead=>some .dead
 | .fv v=>some (.fv v)
 | .nils=>some .nils
 | .emp=>some .emp
 | .clip es=>some (.clip es)
where
 renL (f:Ref->Option Ref):List IV->Option (List IV)
  | []=>some []
  | v::l=>(v.ren f).bind fun v=>(renL f l).map fun l=>v::l
def Blk.ren (f:Ref->Option Ref):Blk->Option Blk
 | .row cells ro=>(IV.ren.renL f cells).map fun cells=>.row cells ro
 | .tok n sz=>some (.tok n sz)
 | .map es=>(IV.ren.renL f (es.map (·.2))).map fun vs=>.map ((es.map (·.1)).zip vs)
def Bg (f:Ref->Option Ref):List Blk->Option (List Blk)
 | []=>some []
 | b::l=>(b.ren f).bind fun b=>(Bg f l).map fun l=>b::l
def hasRef (r:Ref):List (Ref×Blk)->Bool
 | []=>false
 | (s,_)::l=>decide (r=s) || hasRef r l
def B4:Nat->List Ref->List (Ref×Blk)->Rd (List (Ref×Blk))
 | 0,_,_=>.fail
 | _+1,[],done=>.ret done
 | n+1,r::rest,done =>
  if hasRef r done then B4 n rest done
  else .get r fun b=>B4 n (rest++b.refs) (done++[(r,b)])
def Cs (r:Ref):List (Ref×Blk)->Nat->Option Nat
 | [],_=>none
 | (s,_)::l,j=>if r=s then some j else Cs r l (j+1)
def D6 (l:List (Ref×Blk)) (r:Ref):Option Ref:=(Cs r l 0).map .ext
def CF (l:List (Ref×Blk)):Ref->Option Ref
 | .ext j=>(l[j]?).map (·.1)
 | .own _=>none
def By:List Bool->List IV->Rd (List IV×List Ref×List (Ref×Blk))
 | _,[]=>.ret ([],[],[])
 | true::ks,v::l=>(By ks l).bind fun (vs,rs,u)=>.ret (v::vs,v.refs++rs,u)
 | false::ks,v::l=>(C8 4096 v).bind fun (x,u)=>(By ks l).bind fun (vs,rs,u')=>.ret (.fv x::vs,rs,u++u')
 | [],v::l=>(C8 4096 v).bind fun (x,u)=>(By [] l).bind fun (vs,rs,u')=>.ret (.fv x::vs,rs,u++u')
abbrev Ah:=FuncId->List IV->Hp->Option (IV×Hp)
def HG (f:FuncId) (res:IV) (hp:Hp):Option IV :=if E.pol.raw f then some res else ((C8 4096 res).run hp).map fun (v,_)=>.fv v
def Cv:Option (IV×Hp)->Bool
 | some (.nils,⟨_,[]⟩)=>true
 | some (.emp,⟨_,[]⟩)=>true
 | some (.clip [],⟨_,[]⟩)=>true
 | some (.fv (.sl []),⟨_,[]⟩)=>true
 | _=>false
def asked (ih:Ah) (f:FuncId) (args:List IV) (ext:List Blk):Option (IV×Hp) :=
 if E.pol.split f then match args,ext with
  | [.fv (.sl [])],[]=>if Cv (ih f [.nils] ⟨[],[]⟩) && Cv (ih f [.emp] ⟨[],[]⟩) then some (.fv (.sl []),⟨[],[]⟩) else none
  | _,_=>ih f args ⟨[],ext⟩
 else ih f args ⟨[],ext⟩
def BB (l:List (Ref×Blk)):List Ref:=l.map (·.1)
def GK (ih:Ah) (f:FuncId) (args:List IV):Rd Eff :=
 (By (E.pol.keep f) args).bind fun (vs,rs,u) =>
 (B4 4096 rs []).bind fun l =>
 Rd.of ((IV.ren.renL (D6 l) vs).bind fun vs'=>(Bg (D6 l) (l.map (·.2))).bind fun ext =>
  (asked E ih f vs' ext).bind fun (res,hp) =>
  (HG E f res hp).bind fun res=>(res.ren (CF l)).bind fun res=>(Bg (CF l) hp.ext).bind fun ext' =>
  if ext'.length=l.length/\(BB u).all (fun r=>!hasRef r l) then some { val:=res,upd:=u++(BB l).zip ext' } else none)
def WT:List Ref->Bool
 | []=>true
 | .ext _::l=>WT l
 | .own _::_=>false
def Fm (r:Ref) (v:IV):Bool:=match r with | .ext _=>WT v.refs | .own _=>true
def BI (s:Nat):List FV->Bool
 | []=>true
 | e::_=>e.cells.length == s
def lenOf:IV->Option Nat
 | .slc _ _ n=>some n
 | .fv (.str s)=>some s.size
 | v=>(Cm v).map (·.length)
def Im (v:IV) (n:Nat):Option Nat :=
 match v with
 | .fv (.int _ i)=>if 0<=i/\i<=(n:Int) then some i.toNat else none
 | _=>none
def FP (v:Option IV) (n d:Nat):Option Nat:=match v with | none=>some d | some v=>Im v n
def CG (n:Int) (v:IV):List (Int×IV)->List (Int×IV)
 | []=>[(n,v)]
 | (j,x)::l=>if n=j then (j,v)::l else (j,x)::CG n v l
def Ds (n:Int):List (Int×IV)->Option IV
 | []=>none
 | (j,x)::l=>if n=j then some x else Ds n l
def Pg (ti:TI):Option IV:=if ti.kind.isAgg then some (Fp ti.zero) else match ti.zero with | [x]=>some x | _=>none
structure Made where
 eff:Eff
 new:Option Blk:=none
def Rd.eff (r:Rd Eff):Rd Made:=r.bind fun e=>.ret { eff:=e }
def val (v:IV):Rd Made:=.ret { eff:={ val:=v } }
def Gq (v:Option IV):Rd Made:=match v with | some v=>val v | none=>.fail
def DK (k:Nat) (t:TypeId) (xt:Option TypeId) (row:Bool) (s x:IV):Rd Made :=
 match E.T t,xt.bind E.T with
 | some ⟨
     _,_,.slice e,_⟩,some ⟨_,_,.slice _,_⟩=>match E.T e with
  | none=>.fail
  | some ei=>(C8 4096 x).bind fun (fx,u)=>match fx with
   | .sl es2 =>
    if ei.size=0\/BI ei.size es2=false then .fail else
    match Cm s with
    | none=>.fail
    | some es =>
     if BI ei.size es=false\/(es.length+es2.length) * ei.bytes > 140737488355328\/es.length+es2.length > 1073741824 then .fail else
     match s with
     | .nils | .clip _ =>
      if es2.isEmpty then .ret { eff:={ val:=s,upd:=u } }
      else if row then .ret { eff:={ val:=.slc (.own k) ei.size (es++es2).length,upd:=u },new:=some (.row (((es++es2).flatMap FV.cells).map .fv) false) }
      else .ret { eff:={ val:=.app (.own k) (es++es2),upd:=u },new:=some (.tok (es++es2).length ei.size) }
     | .app r _=>.get r fun
      | .tok n sz=>if n=es.length/\sz=ei.size/\(es2.all fun e=>e.cells.all FV.one)=true then
        .ret { eff:={ val:=.app r (es++es2),upd:=u++[(r,.tok (n+es2.length) sz)] } } else .fail
      | _=>.fail
     | _=>.fail
   | _=>.fail
 | _,_=>.fail
def AT (k:Nat) (row:Bool) (b:Builtin) (ts:List TypeId) (args:List IV):Rd Made :=
 match b,ts,args with
 | .len,[t],[x]=>match E.T t,x with
  | some ⟨_,_,.str,_⟩,.fv (.str s)=>val (.fv (.int .i64 s.size))
  | some ⟨_,_,.slice _,_⟩,x=>match x with
   | .slc _ _ n=>val (.fv (.int .i64 n))
   | x=>Gq ((Cm x).map fun es=>.fv (.int .i64 es.length))
  | _,_=>.fail
 | .append,[t,xt],[s,x]=>DK E k t (some xt) row s x
 | .max,_,[.fv (.int k x),.fv (.int _ y)]=>val (.fv (.int k (if y > x then y else x)))
 | .min,_,[.fv (.int k x),.fv (.int _ y)]=>val (.fv (.int k (if y<x then y else x)))
 | _,_,_=>.fail
def Kx (t:TypeId) (x i:IV):Rd Made :=
 match E.T t,i with
 | some ⟨
     _,_,.slice e,_⟩,.fv (.int _ n)=>match E.T e with
  | none=>.fail
  | some ei=>match x with
   | .slc r sz len=>if 0<=n/\n<(len:Int)/\sz=ei.size then val (.ptr r (n.toNat * sz)) else .fail
   | x=>match Cm x with
    | none=>.fail
    | some es=>if n<0 then .fail else match es[n.toNat]? with
     | some el=>if el.cells.length=ei.size then val (.fv (.fp el.cells 0)) else .fail
     | none=>.fail
 | some ⟨_,_,.arr m e,_⟩,.fv (.int _ n)=>match E.T e with
  | none=>.fail
  | some ei=>if 0<=n/\n<(m:Int) then match x with
   | .ptr r o=>val (.ptr r (o+n.toNat * ei.size))
   | .fv (.fp cells o)=>val (.fv (.fp cells (o+n.toNat * ei.size)))
   | _=>.fail else .fail
 | _,_=>.fail
def Iz (
      t:TypeId) (x:IV) (lo hi mx:Option IV):Rd Made :=
 match E.T t with
 | some ⟨_,_,.str,_⟩=>match x,mx with
  | .fv (.str s),none=>Gq ((FP hi s.size s.size).bind fun h=>(FP lo h 0).map fun l=>.fv (.str (s.extract l h)))
  | _,_=>.fail
 | some ⟨
     _,_,.slice e,_⟩=>match E.T e with
  | none=>.fail
  | some ei=>(C8 4096 x).bind fun (fx,u)=>match fx with
   | .sl es=>if BI ei.size es=false then .fail else
    match mx with
    | none=>match (FP hi es.length es.length).bind fun h=>(FP lo h 0).map fun l=>(l,h) with
     | some (l,h)=>.ret { eff:={ val:=.fv (.sl ((es.drop l).take (h - l))),upd:=u } }
     | none=>.fail
    | some m=>match hi with
     | none=>.fail
     | some hv=>match (Im m es.length).bind fun m=>(Im hv m).bind fun h=>(FP lo h 0).bind fun l=>if m=h then some (l,h) else none with
      | some (l,h)=>.ret { eff:={ val:=.clip ((es.drop l).take (h - l)),upd:=u } }
      | none=>.fail
   | _=>.fail
 | _=>.fail
def HN (s:TypeId) (i:Nat):Option (Nat×TI) :=
 match E.T s with
 | some ⟨_,_,.struct fs,_⟩=>(fs[i]?).bind fun (o,t)=>(E.T t).map fun ti=>(o,ti)
 | _=>none
def callee:IV->Option (FuncId×List IV×List IV)
 | .fv (.func (.func f) a b)=>some (f,a.map .fv,b.map .fv)
 | .func (.func f) a b=>some (f,a,b)
 | _=>none
def C9 (ih:Ah) (f:FuncId) (rid i:Nat) (ρ:Operand->IV) (o:Op):Rd Made :=
 match o with
 | .move x | .assign x=>val (ρ x)
 | .pick c a b=>match ρ c with
  | .fv (.bool t)=>val (if t then ρ a else ρ b)
  | _=>.fail
 | .alloc t=>match E.T t with
  | some ti=>.ret { eff:={ val:=.ptr (.own (Bt f rid i)) 0 },new:=some (.row ti.zero false) }
  | none=>.fail
 | .box _ x =>
  let v:=ρ x
  if v.alive=false then .fail else
  if E.pol.fzBox f rid i then (frzL 4096 v.cells).bind fun (vs,u)=>.ret { eff:={ val:=.fv (.fp vs 0),upd:=u } }
  else .ret { eff:={ val:=.ptr (.own (Bt f rid i)) 0 },new:=some (.row v.cells false) }
 | .build t parts=>match E.T t with
  | some ⟨_,_,.struct fs,z⟩=>Gq ((CU (EJ E fs) z (parts.toList.map fun (j,x)=>(j,ρ x))).map Fp)
  | some ⟨_,_,.arr _ e,z⟩=>match E.T e with
   | some ei=>Gq ((CU (fun j=>some (j * ei.size,ei.size)) z (parts.toList.map fun (j,x)=>(j,ρ x))).map Fp)
   | none=>.fail
  | _=>.fail
 | .buildSlice t len parts=>match E.T t with
  | some ⟨_,_,.slice e,_⟩=>match E.T e with
   | some ei=>if ei.size=0\/len * ei.size > 65536 then .fail else
    match CU (fun j=>some (j * ei.size,ei.size)) (NB len ei.zero) (parts.toList.map fun (j,x)=>(j,ρ x)) with
    | some cells=>(frzL 65536 cells).bind fun (vs,u)=>.ret { eff:={ val:=.clip (B7 ei.size len vs),upd:=u } }
    | none=>.fail
   | none=>.fail
  | _=>.fail
 | .load t a=>match E.T t with
  | none=>.fail
  | some ti=>match ρ a with
   | .ptr r off=>.get r fun
    | .row cells _=>Gq (Cu ti.kind.isAgg ti.size off cells)
    | _=>.fail
   | .fv (.fp cells off)=>Gq ((BN ti.kind.isAgg ti.size off cells).map .fv)
   | _=>.fail
 | .store t a x=>match E.T t with
  | none=>.fail
  | some ti=>match ρ a with
   | .ptr r off=>.get r fun
    | .row cells false =>
     let v:=ρ x
     if v.alive/\v.cells.length=ti.size/\off+ti.size<=cells.length/\v.cells.all IV.one/\Fm r v then
      .ret { eff:={ val:=.dead,upd:=[(r,.row (Bh cells off v.cells) false)] } }
     else .fail
    | _=>.fail
   | _=>.fail
 | .nilCheck x=>match ρ x with
  | .ptr r o=>val (.ptr r o)
  | .fv (.fp cs o)=>val (.fv (.fp cs o))
  | .func (.func g) a b=>val (.func (.func g) a b)
  | .fv (.func (.func g) a b)=>val (.fv (.func (.func g) a b))
  | _=>.fail
 | .binOp op t x y _=>Gq (EL E op t (ρ x) (ρ y))
 | .unOp op _ x=>Gq (KE op (ρ x))
 | .convert s d x=>Gq (Jl E s d (ρ x))
 | .makeFunc fn a b=>val (CI fn (a.toList.map ρ) (b.toList.map ρ))
 | .makeMap _ none=>.ret { eff:={ val:=.mapr (.own (Bt f rid i)) },new:=some (.map []) }
 | .insert t m k x | .mapUpdate t m k x=>match E.T t with
  | some ⟨_,_,.map kt _,_⟩=>match E.T kt,ρ m,ρ k with
   | some ⟨_,_,.int .i64,_⟩,.mapr r,.fv (.int .i64 n)=>.get r fun
    | .map es =>
     let v:=ρ x
     if v.alive/\Fm r v then .ret { eff:={ val:=.dead,upd:=[(r,.map (CG n v es))] } } else .fail
    | _=>.fail
   | _,_,_=>.fail
  | _=>.fail
 | .lookup t m k ok=>match E.T t with
  | some ⟨
      _,_,.map kt et,_⟩=>match E.T kt,E.T et,ρ m,ρ k with
   | some ⟨_,_,.int .i64,_⟩,some ei,.mapr r,.fv (.int .i64 n)=>.get r fun
    | .map es=>match Ds n es with
     | some v=>val (if ok then CL [v,.fv (.bool true)] else v)
     | none=>match Pg ei with
      | some z=>val (if ok then CL [z,.fv (.bool false)] else z)
      | none=>.fail
    | _=>.fail
   | _,_,_,_=>.fail
  | _=>.fail
 | .makeSlice t l c=>match E.T t with
  | some ⟨_,_,.slice e,_⟩=>match E.T e,ρ l,ρ c with
   | some ei,.fv (.int .i64 a),.fv (.int .i64 b) =>
    if 0<=a/\a<=b/\b<=1048576/\ei.size≠0/\ei.bytes<=65536 then
     .ret { eff:={ val:=.slc (.own (Bt f rid i)) ei.size a.toNat },new:=some (.row (NB b.toNat ei.zero) false) }
    else .fail
   | _,_,_=>.fail
  | _=>.fail
 | .slice t x lo hi mx=>Iz E t (ρ x) (lo.map ρ) (hi.map ρ) (mx.map ρ)
 | .fieldAddr s x fd=>match HN E s fd with
  | some (o,ti)=>if ti.size=0 then .fail else match ρ x with
   | .ptr r off=>val (.ptr r (off+o))
   | .fv (.fp cs off)=>val (.fv (.fp cs (off+o)))
   | _=>.fail
  | none=>.fail
 | .field s x fd=>match HN E s fd with
  | some (o,ti)=>match ρ x with
   | .agg cs=>Gq (Cu ti.kind.isAgg ti.size o cs)
   | .fv (.agg cs)=>Gq ((BN ti.kind.isAgg ti.size o cs).map .fv)
   | _=>.fail
  | none=>.fail
 | .indexAddr t x ix=>Kx E t (ρ x) (ρ ix)
 | .index t x ix=>match E.T t,ρ x,ρ ix with
  | some ⟨_,_,.str,_⟩,.fv (.str s),.fv (.int _ n)=>if n<0 then .fail else match s[n.toNat]? with
   | some b=>val (.fv (.int .u8 b.toNat))
   | none=>.fail
  | some ⟨_,_,.arr m e,_⟩,.fv (.agg cs),.fv (.int _ n)=>match E.T e with
   | some ei=>if 0<=n/\n<(m:Int) then Gq ((BN ei.kind.isAgg ei.size (n.toNat * ei.size) cs).map .fv) else .fail
   | none=>.fail
  | _,_,_=>.fail
 | .extract x ix=>match ρ x with
  | .tuple vs=>Gq (vs[ix]?)
  | .fv (.tuple vs)=>Gq ((vs[ix]?).map .fv)
  | _=>.fail
 | .call { callee:=.builtin b,args,argTypes }=>AT E (Bt f rid i) (E.pol.rowApp f rid i) b argTypes.toList (args.toList.map ρ)
 | .call { callee:=.value g,args,.. }=>match callee (ρ g) with
  | some (h,first,cap)=>if E.pol.inl h then .fail else (GK E ih h (first++args.toList.map ρ++cap)).eff
  | none=>.fail
 | _=>.fail
def Eb (ih:Ah) (f:FuncId) (rid i:Nat) (slots:List IV) (o:Op):Rd Made:=C9 E ih f rid i (AG slots) o
structure St where
 slots:List IV
 hp:Hp
 deriving Inhabited
def Ch (d:Option Nat) (v:IV) (slots:List IV):List IV:=match d with | some d=>slots.set d v | none=>slots
def FC:IV:=.fv (.tuple [])
def Dl (ops:Array Oper) (slots:List IV) (o:Oper):Option Bool :=
 match o.guard with
 | none=>some true
 | some (j,want)=>match ((ops[j]?).bind (·.dst)).bind (slots[·]?) with
  | some (.fv (.bool b))=>some (b == want)
  | some (.fv (.tuple []))=>some false
  | _=>none
def laid (h:Hp):List (Ref×Blk)->Option Hp
 | []=>some h
 | (r,b)::l=>match h.get r with
  | some _=>laid (h.set r b) l
  | none=>none
def CV (k:Nat) (m:Made) (h:Hp):Option Hp :=
 match m.new with
 | none=>some h
 | some b=>match h.get (.own k) with
  | some _=>none
  | none=>some (h.set (.own k) b)
def A4 (k:Nat) (h:Hp) (m:Made):Option Hp:=(laid h m.eff.upd).bind (CV k m)
def Eh (k:Nat) (d:Option Nat) (S:St) (m:Made):Option St :=(A4 k S.hp m).map fun h=>⟨Ch d m.eff.val S.slots,h⟩
def EC (slots:List IV):Op->Option (FuncId×List IV)
 | .call { callee:=.value g,args,.. }=>match callee (AG slots g) with
  | some (h,first,cap)=>if E.pol.inl h then some (h,first++args.toList.map (AG slots)++cap) else none
  | none=>none
 | _=>none
def step (ih:Ah) (f:FuncId) (rid:Nat) (ops:Array Oper) (i:Nat) (S:St):Option St :=
 match ops[i]? with
 | none=>some S
 | some o=>match Dl ops S.slots o with
  | none=>none
  | some false=>some { S with slots:=Ch o.dst FC S.slots }
  | some true=>match EC E S.slots o.op with
   | some (h,args)=>(ih h args S.hp).map fun (v,hp)=>⟨Ch o.dst v S.slots,hp⟩
   | none=>((Eb E ih f rid i S.slots o.op).run S.hp).bind (Eh (Bt f rid i) o.dst S)
def IE (ih:Ah) (f:FuncId) (rid:Nat) (ops:Array Oper):List Nat->St->Option St
 | [],S=>some S
 | i::l,S=>(step E ih f rid ops i S).bind (IE ih f rid ops l)
def Ka (ih:Ah) (f:FuncId) (rid:Nat) (ops:Array Oper) (i:Nat) (S:St):Option (St×List Ref×List Ref) :=
 match ops[i]? with
 | none=>some (S,[],[])
 | some o=>match Dl ops S.slots o with
  | none=>none
  | some false=>some ({ S with slots:=Ch o.dst FC S.slots },[],[])
  | some true=>match EC E S.slots o.op with
   | some _=>none
   | none=>match (Eb E ih f rid i S.slots o.op).runLog S.hp [] with
    | none=>none
    | some (m,rd)=>(Eh (Bt f rid i) o.dst S m).map fun S' =>(S',rd,BB m.eff.upd++(match m.new with | some _=>[.own (Bt f rid i)] | none=>[]))
def Nd (a b:List Ref):Bool:=a.all fun r=>b.all fun s=>decide (r≠s)
def clash (p q:List Ref×List Ref):Bool:=Nd p.2 q.1 && Nd p.2 q.2 && Nd q.2 p.1
def E7 (ih:Ah) (f:FuncId) (rid:Nat) (ops:Array Oper) (before:Array Nat):List Nat->List (Nat×List Ref×List Ref)->St->Option St
 | [],_,S=>some S
 | i::l,done,S=>match Ka E ih f rid ops i S with
  | none=>none
  | some (S',p)=>if done.all fun (j,q)=>(before.getD i 0).testBit j || clash q p then E7 ih f rid ops before l ((i,p)::done) S' else none
inductive Ex where
 | normal
 | exit (id:Nat)
 | ret
 deriving Inhabited
def Cn:Code->Nat
 | .region id _ _=>id
 | .seq a _=>Cn a
 | .cond _ a _=>Cn a
 | .block _ c=>Cn c
 | .loop c=>Cn c
 | _=>0
def anyIn (rs:List Nat):List Ref->Bool
 | []=>false
 | .own k::l=>rs.contains k || anyIn rs l
 | .ext _::l=>anyIn rs l
def De (S:St):List Ref:=IV.refs.refsL S.slots++S.hp.own.flatMap (fun p=>p.2.refs)++S.hp.ext.flatMap Blk.refs
def Be:List Nat->List IV->List IV
 | [],l=>l
 | i::is,l=>Be is (l.set i .dead)
def CR (base kills rm:List Nat) (S:St):Option St :=
 if rm.any base.contains then none else
 let S1:St:={ S with slots:=Be kills S.slots }
 if S1.hp.own.all (fun p=>!rm.contains p.1) then some S1 else
 let held:=IV.refs.refsL S1.slots++(S1.hp.own.filter fun p=>!rm.contains p.1).flatMap (fun p=>p.2.refs)++S1.hp.ext.flatMap Blk.refs
 let gone:=rm.filter fun k=>!anyIn [k] held
 let S2:St:={ S1 with hp:={ S1.hp with own:=S1.hp.own.filter fun p=>!gone.contains p.1 } }
 if anyIn gone (De S2) then none else some S2
def iterate (head:St->Option St) (body:St->Option (Ex×St)):Nat->St->Option (Ex×St)
 | 0,_=>none
 | k+1,S=>(head S).bind fun S=>match body S with
  | some (.normal,S')=>iterate head body k S'
  | r=>r
def D4 (ih:Ah) (f:FuncId) (k:Nat) (base:List Nat):Code->St->Option (Ex×St)
 | .skip,S=>some (.normal,S)
 | .region rid ops draw,S =>(if draw then E7 E ih f rid ops (Region.before ops) (List.range ops.size) [] S else IE E ih f rid ops (List.range ops.size) S).map fun S=>(.normal,S)
 | .seq a b,S=>match D4 ih f k base a S with
  | some (.normal,S')=>D4 ih f k base b S'
  | r=>r
 | .cond c a b,S=>match AG S.slots c with
  | .fv (.bool true)=>D4 ih f k base a S
  | .fv (.bool false)=>D4 ih f k base b S
  | _=>none
 | .block id c,S=>match D4 ih f k base c S with
  | some (.exit j,S')=>if j=id then some (.normal,S') else some (.exit j,S')
  | r=>r
 | .loop c,S =>
  let h:=E.pol.head f (Cn c)
  iterate (CR base h.1 h.2) (D4 ih f k base c) k S
 | .exit id,S=>some (.exit id,S)
 | .ret,S=>some (.ret,S)
 | _,_=>none
def IJ (S:St):ResultVar->Option IV
 | .tmp t=>some (S.slots.getD t .dead)
 | .cell a t=>match E.T t,S.slots.getD a .dead with
  | some ti,.ptr r off=>match S.hp.get r with
   | some (.row cells _)=>Cu ti.kind.isAgg ti.size off cells
   | _=>none
  | some ti,.fv (.fp cells off)=>(BN ti.kind.isAgg ti.size off cells).map .fv
  | _,_=>none
def F4 (S:St):List ResultVar->Option (List IV)
 | []=>some []
 | r::l=>(IJ E S r).bind fun v=>(F4 S l).map fun vs=>v::vs
def GA (S:St) (rs:List ResultVar):Option IV :=
 (F4 E S rs).map fun
  | [v]=>v
  | vs=>CL vs
def run:Nat->Ah
 | 0,_,_,_=>none
 | n+1,f,args,hp=>match E.P.funcs[f]? with
  | none=>none
  | some fn=>match fn.body with
   | none=>none
   | some c=>match D4 E (run n) f n (hp.own.map (·.1)) c ⟨args++List.replicate (fn.ntmps - args.length) .dead,hp⟩ with
    | some (.ret,S) | some (.normal,S)=>(GA E S fn.results.toList).map fun v=>(v,S.hp)
    | _=>none
end
def regionOk (ops:Array Oper):Bool :=
 let b:=Region.before ops
 (List.range ops.size).all fun i=>match ops[i]? with
  | none=>false
  | some o=>(o.after.toList.all fun e=>!Region.binds .any e || decide (e.on<i)) &&
   (List.range ops.size).all fun j =>
    (!(b.getD i 0).testBit j || (decide (j<i) && o.after.toList.any fun e=>Region.binds .any e && (decide (e.on=j) || (b.getD e.on 0).testBit j))) &&
    (decide (i<=j) || (b.getD i 0).testBit j || (match ops[j]? with | some p=>p.apart ops o | none=>false))
def DQ:Code->Bool
 | .region _ ops d=>!d || regionOk ops
 | .seq a b=>DQ a && DQ b
 | .cond _ a b=>DQ a && DQ b
 | .block _ c=>DQ c
 | .loop c=>DQ c
 | _=>true
end Idl
end Go.Proofs.YtnenpcghegcnhaaGreat
