/-
  The law 'KernelShift' holds: for every input it answers true, and its arguments read as they did.
-/
import Derived.Test.YtnenpcghegcnhaaGreatRows
import Derived.Test.YtnenpcghegcnhaaGreatKernelShiftK15
set_option linter.all false
set_option maxRecDepth 100000
namespace Go.Proofs.YtnenpcghegcnhaaGreat.kernelShift
open Go.ChangeShapes Go.WideShapes Go.ChangeAt Go.RowKit
open Go.Proofs.YtnenpcghegcnhaaGreat.Idl
set_option linter.unusedVariables false
theorem own:ownKnob Tryz.prog.godebug=none:=by kernel_rfl
theorem laidOut:laidOutB Tryz.prog=true:=by kernel_rfl
theorem rawTE:∃fs,TmType Tryz.prog 24 22 3 fs:=⟨_,Tryz.underlying24,rfl,Tryz.underlying3,Tryz.underlying22,by kernel_rfl,by kernel_rfl,by kernel_rfl⟩
theorem raws_len {w:World} {F:B3} {es:List FV} {a:Option Addr} {l c:Nat} (h:RF w F (.sl es) (.slice a l c)):es.length=l:=by cases h<;>rfl
theorem raws_none {w:World} {F:B3} {es:List FV} {l c:Nat} (h:RF w F (.sl es) (.slice none l c)):es.length=0:=by cases h;rfl
theorem walk (a0:List Tm) (l0:a0.length<=9223372036854775807) (a1:Tm) (a2:Tm) (a3:Bool) (a4:List Bool) (w:World) {v0 v1 v2 v3 v4:Value} (h:Args w [.sl (a0.map Tm.enc),a1.enc,a2.enc,.bool a3,.sl (a4.map FV.bool)] [v0,v1,v2,v3,v4]):Calls Tryz.prog 7 #[v0,v1,v2,v3,v4] w fun e w'=>e=.returned (.bool true)/\Grown w w':=by obtain ⟨N,own,hr⟩:=L9 a0 l0 a1 a2 a3 a4;exact YJ (E:=EE) Aap (Zc h) (sK N 7 _ _ _ hr)
theorem readable:∀t∈([22,24,24,4,59]:List TypeId),Tryz.prog.readableRec t=true/\t<Tryz.prog.types.size:=by intro t ht;simp only [Ajp,List.not_mem_nil,or_false] at ht;rcases ht with rfl | rfl | rfl | rfl | rfl<;>exact ⟨by kernel_rfl,of_decide_eq_true (by kernel_rfl)⟩
theorem contract (H:Type) (enc:TypeId×Value->H) (W:World) (base:Nat) (args:Array Value) (ds gs:List (DataW H)) (before:List MemPlace)
  (hval:∀(j:Nat) t v,Tryz.f7.params[j]?=some t->args[j]?=some v->Value.okWide Tryz.prog W .any base t v)
  (hW:DataW.Whole enc Tryz.prog Tryz.f7.params.toList Rows.kernelShiftSpec.vars false W args.toList ds gs before) :
  Calls Tryz.prog 7 args W fun e W'=>∃v,e=.returned v/\Rows.kernelShiftSpec.post enc Tryz.prog Tryz.f7 false true false false W args v W':=by
 have hW':=hW;have hlt:=hW.lt;obtain ⟨p,q,hA0,hV,rfl,hfz,hnd⟩:=hW;have hA:DataW.TrodAll enc Tryz.prog W 0 (fun _=>true) true Tryz.f7.params.toList args.toList ds p:=hA0;rw [Tryz.params7] at hA hval;have hB:=hA;obtain ⟨fsR,rawT⟩:=rawTE;obtain ⟨v0,vs0,d0,ds0,p0,q0,hargs,rfl,rfl,h0,r0⟩:=trodAll_cons hA;obtain ⟨v1,vs1,d1,ds1,p1,q1,rfl,rfl,rfl,h1,r1⟩:=trodAll_cons r0;obtain ⟨v2,vs2,d2,ds2,p2,q2,rfl,rfl,rfl,h2,r2⟩:=trodAll_cons r1;obtain ⟨v3,vs3,d3,ds3,p3,q3,rfl,rfl,rfl,h3,r3⟩:=trodAll_cons r2;obtain ⟨v4,vs4,d4,ds4,p4,q4,rfl,rfl,rfl,h4,r4⟩:=trodAll_cons r3;obtain ⟨rfl,rfl,rfl⟩:=trodAll_nil r4;obtain rfl:args=#[v0,v1,v2,v3,v4]:=by cases args;simp_all
 obtain ⟨rfl,rfl⟩:=trodVars_none hV;obtain ⟨a0,l0,e0⟩:∃l:List Tm,l.length<=9223372036854775807/\RF W (all W) (.sl (l.map Tm.enc)) v0:=by
  have hok:=(hval 0 22 v0 rfl rfl);obtain ⟨a,ln,c,rfl⟩:=okWide_slice Tryz.underlying22 hok;obtain ⟨n,h⟩:=h0;obtain ⟨l,v,e,hR⟩:=NZ rawT (fun m _=>Rf rawT m) h;have e':v=_:=(List.cons.inj e).1.symm;subst e';have hlen:=raws_len hR;rw [Ajw] at hlen;refine ⟨l,?_,hR⟩;simp only [Value.okWide,Tryz.underlying22,Cell.okWide] at hok;cases a with
  | none =>have h0:=raws_none hR;rw [Ajw] at h0;omega
  | some a =>
   simp only [Cell.ok,Tryz.underlying22] at hok;have h1:=hok.1;have h2:=hok.2.1;have h3:IntKind.i64.max=9223372036854775807:=by decide
   omega
 obtain ⟨a1,e1⟩:=UQ rawT (by obtain ⟨c,h,_⟩:=okWide_struct Tryz.underlying24 (hval 1 24 v1 rfl rfl);exact ⟨c,h⟩) h1;obtain ⟨a2,e2⟩:=UQ rawT (by obtain ⟨c,h,_⟩:=okWide_struct Tryz.underlying24 (hval 2 24 v2 rfl rfl);exact ⟨c,h⟩) h2;obtain ⟨a3,rfl,hd3,hp3⟩:=open_bool Tryz.underlying4 (hval 3 4 v3 rfl rfl) h3;obtain ⟨a4,e4⟩:∃l:List Bool,RF W (all W) (.sl (l.map FV.bool)) v4:=by obtain ⟨a,l,c,rfl⟩:=okWide_slice Tryz.underlying59 (hval 4 59 v4 rfl rfl);obtain ⟨n,h⟩:=h4;obtain ⟨l,v,e,hR⟩:=Q4 Tryz.underlying59 Tryz.underlying4 (by kernel_rfl) h;have e':v=_:=(List.cons.inj e).1.symm;subst e';exact ⟨l,hR⟩
 refine (walk a0 l0 a1 a2 a3 a4 W (.cons e0 (.cons e1 (.cons e2 (.cons (.bool a3) (.cons e4 .nil)))))).mono fun e W' ⟨he,hg⟩=>?_;subst he;exact ⟨_,rfl,post_of_same (pv:=[]) hW' (fun _ _ _=>(trodAll_cons_mk (shut_bool Tryz.underlying4 _) trodAll_mk0)) (fun sp hsp=>Iq laidOut _ _ _ _ readable hB hg (fun x hx=>hlt x (List.mem_append_left _ hx)) (fun x hx=>hsp x (List.mem_append_left _ hx))) (fun _ _=>rfl) rfl
  (hg.frame _) hg.2.1 (ok_one (by kernel_rfl) rfl (okWide_bool_mk Tryz.underlying4 _))⟩
theorem lifted (os:Os) (started:os.Started) (H:Type) (enc:TypeId×Value->H) :
  ReturnsInHanded {} Tryz.checked os 7 .any (Rows.kernelShiftSpec.pre6 enc Tryz.prog Tryz.f7 Rows.kernelShiftRow.domain false) (Rows.kernelShiftSpec.post enc Tryz.prog Tryz.f7 false true false false):=by
 refine returnsInHanded_of_change (C:=Tryz.checked) (s:=Rows.kernelShiftSpec) own started (by kernel_rfl) Tryz.func7
  (ChangeSpec.witness6 (enc:=enc) (C:=Tryz.checked) (s:=Rows.kernelShiftSpec) false ⟨#[],#[.slice none 0 0,.agg #[.int .i64 0,.int .i64 0,.slice none 0 0],.agg #[.int .i64 0,.int .i64 0,.slice none 0 0],.bool false,.slice none 0 0],[]⟩ 12 (by kernel_rfl) (by kernel_rfl) (by kernel_rfl) (by kernel_rfl)) ?_
 intro W base args ds gs before hval hW _ _;exact contract H enc W base args ds gs before hval hW
theorem over:Rows.kernelShiftRow.holds Tryz.pinned (OpenSpec.ofChange Rows.kernelShiftSpec) :=
 OpenClaim.holds_of_wide 7 Tryz.f7 rfl rfl rfl rfl rfl rfl rfl ⟨rfl,rfl,rfl,rfl,rfl⟩ rfl rfl rfl rfl rfl (by kernel_rfl) Tryz.func7 (by kernel_rfl)
  (of_decide_eq_true (by kernel_rfl)) (by unfold Func.isWrapper;first | (rw [if_pos (by decide +kernel)];kernel_rfl) | (rw [if_neg (by decide +kernel)];exact ⟨rfl,rfl⟩))
  (fun os started H enc _=>lifted os started H enc)
theorem proved:Rows.KernelShiftSaid :=over
end Go.Proofs.YtnenpcghegcnhaaGreat.kernelShift
