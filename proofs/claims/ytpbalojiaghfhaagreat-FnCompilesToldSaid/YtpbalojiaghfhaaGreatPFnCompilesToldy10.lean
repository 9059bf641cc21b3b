import Derived.Test.YtpbalojiaghfhaaGreatPFnCompilesToldy0
import Derived.Test.YtpbalojiaghfhaaGreatPFnCompilesToldy1
import Derived.Test.YtpbalojiaghfhaaGreatPFnCompilesToldy3
import Derived.Test.YtpbalojiaghfhaaGreatPFnCompilesToldy8
import Derived.Test.YtpbalojiaghfhaaGreatPFnCompilesToldy9
namespace Go.Proofs.YtpbalojiaghfhaaGreat.PFnCompilesTold
open Go.RowKit Go.Proofs.YtpbalojiaghfhaaGreatW.PrintWords Go.Proofs.YtpbalojiaghfhaaGreatW.PrintLast Go.Proofs.YtpbalojiaghfhaaGreatW.PrintMore Go.Proofs.YtpbalojiaghfhaaGreatW.Z
open Kd
attribute [local go_sem] isS max2_int min2_int max_two min_two max_three min_three max_four min_four
set_option linter.unusedVariables false
set_option linter.unusedSimpArgs false
attribute [local go_sem high] eqA71
def impl_lineOk.j0:Nat→List (S86)→Int→Bool→ByteArray→Int→Int→Int→Int→ByteArray→ByteArray→Option (Bool)
  | 0,_,_,_,_,_,_,_,_,_,_=>none
  | k+1,ae,af,aJ,fi,an,ao,aK,aL,ag,ah=>if aJ=true then(some false)else((impl_Ins_asks.f an ao aK aL).bind fun ai=>(if ai=true then((impl_placeOf.f k ae ag af).bind fun I=>(if I≥0 then((impl_placeOf.f k ae ah af).bind fun ap=>(some (decide (ap≥0))))else(some false)))else(if an=7 then(if ao=0 then((impl_placeOf.f k ae ag af).bind fun J=>(if J≥0 then(some (ah.toList == ([] :List UInt8)))else(some false)))else(some false))else(if ag.toList=([] :List UInt8)then(some (ah.toList == ([] :List UInt8)))else(some false)))))
def impl_lineOk.f (k:Nat) (b:List (S86)) (a:Int):Option (Bool):=if 0≤a then(if a<(b.length:Int)then((impl_Line_isPlace.f ((rd_T86 b a).f0) ((rd_T86 b a).f1.f0) ((rd_T86 b a).f1.f1) ((rd_T86 b a).f1.f2) ((rd_T86 b a).f1.f3) ((rd_T86 b a).f2) ((rd_T86 b a).f3)).bind fun aj=>(if aj=true then((impl_within.f (((rd_T86 b a).f0).size:Int) 1 12).bind fun ak=>(if ak=true then(if(((rd_T86 b a).f1.f0) == 0 && (((rd_T86 b a).f1.f1) == 0 && (((rd_T86 b a).f1.f2) == 0 && (((rd_T86 b a).f1.f3) == 0))))=true then(if((rd_T86 b a).f2).toList=([] :List UInt8)then(if((rd_T86 b a).f3).toList=([] :List UInt8)then((impl_placeOf.f k b ((rd_T86 b a).f0) (-1)).bind fun aq=>(some (aq == a)))else(some false))else(some false))else(some false))else(some false)))else(if((rd_T86 b a).f0).toList=([] :List UInt8)then((impl_InsOk.f k ((rd_T86 b a).f1.f0) ((rd_T86 b a).f1.f1) ((rd_T86 b a).f1.f2) ((rd_T86 b a).f1.f3)).bind fun al=>(if al=true then(if((rd_T86 b a).f1.f2)=0 then(impl_lineOk.j0 k b a (((rd_T86 b a).f1.f3) !=0) ((rd_T86 b a).f0) ((rd_T86 b a).f1.f0) ((rd_T86 b a).f1.f1) ((rd_T86 b a).f1.f2) ((rd_T86 b a).f1.f3) ((rd_T86 b a).f2) ((rd_T86 b a).f3))else(impl_lineOk.j0 k b a true ((rd_T86 b a).f0) ((rd_T86 b a).f1.f0) ((rd_T86 b a).f1.f1) ((rd_T86 b a).f1.f2) ((rd_T86 b a).f1.f3) ((rd_T86 b a).f2) ((rd_T86 b a).f3)))else(impl_lineOk.j0 k b a true ((rd_T86 b a).f0) ((rd_T86 b a).f1.f0) ((rd_T86 b a).f1.f1) ((rd_T86 b a).f1.f2) ((rd_T86 b a).f1.f3) ((rd_T86 b a).f2) ((rd_T86 b a).f3))))else(impl_lineOk.j0 k b a true ((rd_T86 b a).f0) ((rd_T86 b a).f1.f0) ((rd_T86 b a).f1.f1) ((rd_T86 b a).f1.f2) ((rd_T86 b a).f1.f3) ((rd_T86 b a).f2) ((rd_T86 b a).f3)))))else(none))else(none)
set_option maxHeartbeats 8000000 in
set_option maxRecDepth 100000 in
theorem impl_lineOk.calls {k:Nat}{ar:Option Addr}{au:Nat}{b:List (S86)}{a:Int}{r:Bool}{w:World}(h:impl_lineOk.f k b a=some r)(av:Kd.C k86 w ar b.length b)(aw:b.length≤au) :
 Calls Tryz.prog 137 #[.slice ar b.length au,.int .i64 a] w fun e w'=>e= .returned (.bool r)∧Below w.heap.size w w':=by
 have hu86:=Tryz.underlying86;have hu71:=Tryz.underlying71;have HR0:=aM av;have HC0:=aM aw;clear av aw;have HB:=rW w
 unfold impl_lineOk.f at h;have H:=h
 clear h;replace H:=gD H;obtain⟨aN,H⟩:=H;replace H:=gD H;obtain⟨aO,H⟩:=H;replace H:=bE H;obtain⟨aj,m,H⟩:=H;by_cases L:aj=true
 ·subst L;replace H:=iT H;replace H:=bE H;obtain⟨ak,M,H⟩:=H;by_cases O:ak=true
  ·subst O;replace H:=iT H;by_cases i:(((rd_T86 b a).f1.f0) == 0 && (((rd_T86 b a).f1.f1) == 0 && (((rd_T86 b a).f1.f2) == 0 && (((rd_T86 b a).f1.f3) == 0))))=true
   ·rw[if_pos i]at H;have ax:(((rd_T86 b a).f1.f0) == 0 && (((rd_T86 b a).f1.f1) == 0 && (((rd_T86 b a).f1.f2) == 0 && (((rd_T86 b a).f1.f3) == 0))))=true:=i
    (try(have ay:decide (((rd_T86 b a).f1.f0)=0 && (((rd_T86 b a).f1.f1) == 0 && (((rd_T86 b a).f1.f2) == 0 && (((rd_T86 b a).f1.f3) == 0))))=true:=by simpa using i))
    (try(have az:(((rd_T86 b a).f1.f0) == 0 && (((rd_T86 b a).f1.f1) == 0 && (((rd_T86 b a).f1.f2) == 0 && (((rd_T86 b a).f1.f3) == 0))))=true:=by simpa using i))
    clear i;by_cases n:((rd_T86 b a).f2).toList=([] :List UInt8)
    ·rw[if_pos n]at H;obtain⟨aA,aB⟩:=eT n;clear n;by_cases o:((rd_T86 b a).f3).toList=([] :List UInt8)
     ·rw[if_pos o]at H;obtain⟨aC,aD⟩:=eT o;clear o;replace H:=bE H;obtain⟨aq,aP,H⟩:=H;obtain rfl:=Option.some.inj H;have d:0≤(a:Int):=dA;have g:a<(b.length:Int):=dA;obtain⟨U,j,p,q,s,t,u,v,x⟩:=at_T86 HR0.out a d g;cases j;replace d:=eq_true d;replace g:=eq_true g;go_enter Tryz.func137,Tryz.ntmps137
      go_wp2_with (first|((with_reducible refine gN 5 ?_);refine boxZ 5 #[.string (⟨#[]⟩ :ByteArray),.int .i64 0,.int .i64 0,.int .i64 0,.int .i64 0,.string (⟨#[]⟩ :ByteArray),.string (⟨#[]⟩ :ByteArray)] 86 ?_;intro y hg fj hbox hb;have c:=aM hbox;have GW530:=gS hg;have GE530:=gS hg;replace HB:=sB hb;clear hb hbox hg;obtain⟨aQ,aR,aS,aT,aU,aV,aW,aX,aY,aZ,a0,a1,a2,a3⟩:=cz7 c)|((with_reducible refine gF 78 ?_);refine gX (some 11) Tryz.func78 (impl_Line_isPlace.calls m.out) ?_;intro fk hb;replace c:=kP c hb (.cells #[.string ((rd_T86 b a).f0),.int .i64 ((rd_T86 b a).f1.f0),.int .i64 ((rd_T86 b a).f1.f1),.int .i64 ((rd_T86 b a).f1.f2),.int .i64 ((rd_T86 b a).f1.f3),.string ((rd_T86 b a).f2),.string ((rd_T86 b a).f3)] 86 (0,0));replace HB:=sB hb;(try clear hb);obtain⟨a4,a5,a6,a7,a8,a9,ba,bb,bd,be,bf,bg,bh,bi⟩:=cz7 c)|((with_reducible refine gF 81 ?_);refine gX (some 15) Tryz.func81 (impl_within.calls M.out) ?_;rintro w' ⟨nd,rfl⟩)|(go_at_call 109;(with_reducible refine(impl_placeOf.calls aP.out ?side1 ?side2).mono ?_);(case side1=>exact cC (C_below HR0.out cB));(case side2=>exact HC0.out);rintro e fl ⟨rfl,hb⟩;replace c:=kB c hb;replace HB:=sB hb;(try clear hb)))
      go_ret;exact⟨rE,cB⟩
     ·rw[if_neg o]at H;obtain⟨aC,aD⟩:=eF o;obtain rfl:=Option.some.inj H;have d:0≤(a:Int):=dA;have g:a<(b.length:Int):=dA;obtain⟨U,j,p,q,s,t,u,v,x⟩:=at_T86 HR0.out a d g;cases j;replace d:=eq_true d;replace g:=eq_true g;go_enter Tryz.func137,Tryz.ntmps137
      go_wp2_with (first|((with_reducible refine gN 5 ?_);refine boxZ 5 #[.string (⟨#[]⟩ :ByteArray),.int .i64 0,.int .i64 0,.int .i64 0,.int .i64 0,.string (⟨#[]⟩ :ByteArray),.string (⟨#[]⟩ :ByteArray)] 86 ?_;intro y hg fm hbox hb;have c:=aM hbox;have GW530:=gS hg;have GE530:=gS hg;replace HB:=sB hb;clear hb hbox hg;obtain⟨bj,bk,bl,bm,bn,bo,bp,bq,br,bs,bu,bv,bw,bx⟩:=cz7 c)|((with_reducible refine gF 78 ?_);refine gX (some 11) Tryz.func78 (impl_Line_isPlace.calls m.out) ?_;intro fn hb;replace c:=kP c hb (.cells #[.string ((rd_T86 b a).f0),.int .i64 ((rd_T86 b a).f1.f0),.int .i64 ((rd_T86 b a).f1.f1),.int .i64 ((rd_T86 b a).f1.f2),.int .i64 ((rd_T86 b a).f1.f3),.string ((rd_T86 b a).f2),.string ((rd_T86 b a).f3)] 86 (0,0));replace HB:=sB hb;(try clear hb);obtain⟨bz,bA,bB,bC,bD,bF,bG,bH,bI,bJ,bL,bM,bN,bO⟩:=cz7 c)|((with_reducible refine gF 81 ?_);refine gX (some 15) Tryz.func81 (impl_within.calls M.out) ?_;rintro w' ⟨nd,rfl⟩))
      go_ret;exact⟨rE,cB⟩
    ·rw[if_neg n]at H;obtain⟨aA,aB⟩:=eF n;obtain rfl:=Option.some.inj H;have d:0≤(a:Int):=dA;have g:a<(b.length:Int):=dA;obtain⟨U,j,p,q,s,t,u,v,x⟩:=at_T86 HR0.out a d g;cases j;replace d:=eq_true d;replace g:=eq_true g;go_enter Tryz.func137,Tryz.ntmps137
     go_wp2_with (first|((with_reducible refine gN 5 ?_);refine boxZ 5 #[.string (⟨#[]⟩ :ByteArray),.int .i64 0,.int .i64 0,.int .i64 0,.int .i64 0,.string (⟨#[]⟩ :ByteArray),.string (⟨#[]⟩ :ByteArray)] 86 ?_;intro y hg fo hbox hb;have c:=aM hbox;have GW530:=gS hg;have GE530:=gS hg;replace HB:=sB hb;clear hb hbox hg;obtain⟨bP,bQ,bR,bS,bT,bU,bV,bW,bX,bY,bZ,b0,b1,b5⟩:=cz7 c)|((with_reducible refine gF 78 ?_);refine gX (some 11) Tryz.func78 (impl_Line_isPlace.calls m.out) ?_;intro fp hb;replace c:=kP c hb (.cells #[.string ((rd_T86 b a).f0),.int .i64 ((rd_T86 b a).f1.f0),.int .i64 ((rd_T86 b a).f1.f1),.int .i64 ((rd_T86 b a).f1.f2),.int .i64 ((rd_T86 b a).f1.f3),.string ((rd_T86 b a).f2),.string ((rd_T86 b a).f3)] 86 (0,0));replace HB:=sB hb;(try clear hb);obtain⟨b8,b9,ca,cb,cc,cd,ce,cf,cg,ch,ci,cj,ck,cl⟩:=cz7 c)|((with_reducible refine gF 81 ?_);refine gX (some 15) Tryz.func81 (impl_within.calls M.out) ?_;rintro w' ⟨nd,rfl⟩))
     go_ret;exact⟨rE,cB⟩
   ·rw[if_neg i]at H
    have ax:(((rd_T86 b a).f1.f0) == 0 && (((rd_T86 b a).f1.f1) == 0 && (((rd_T86 b a).f1.f2) == 0 && (((rd_T86 b a).f1.f3) == 0))))=false:=by simpa using i
    (try(have ay:decide (((rd_T86 b a).f1.f0)=0 && (((rd_T86 b a).f1.f1) == 0 && (((rd_T86 b a).f1.f2) == 0 && (((rd_T86 b a).f1.f3) == 0))))=false:=by simpa using i))
    (try(have az:(((rd_T86 b a).f1.f0) == 0 && (((rd_T86 b a).f1.f1) == 0 && (((rd_T86 b a).f1.f2) == 0 && (((rd_T86 b a).f1.f3) == 0))))=false:=by simpa using i))
    (try(have fq: ¬ (((rd_T86 b a).f1.f0)=0 && (((rd_T86 b a).f1.f1) == 0 && (((rd_T86 b a).f1.f2) == 0 && (((rd_T86 b a).f1.f3) == 0)))):=by simpa using i))
    clear i;obtain rfl:=Option.some.inj H;have d:0≤(a:Int):=dA;have g:a<(b.length:Int):=dA;obtain⟨U,j,p,q,s,t,u,v,x⟩:=at_T86 HR0.out a d g;cases j;replace d:=eq_true d;replace g:=eq_true g;go_enter Tryz.func137,Tryz.ntmps137
    go_wp2_with (first|((with_reducible refine gN 5 ?_);refine boxZ 5 #[.string (⟨#[]⟩ :ByteArray),.int .i64 0,.int .i64 0,.int .i64 0,.int .i64 0,.string (⟨#[]⟩ :ByteArray),.string (⟨#[]⟩ :ByteArray)] 86 ?_;intro y hg fr hbox hb;have c:=aM hbox;have GW530:=gS hg;have GE530:=gS hg;replace HB:=sB hb;clear hb hbox hg;obtain⟨cm,cn,co,cp,cq,cr,cs,ct,cu,cv,cw,cx,cy,cz⟩:=cz7 c)|((with_reducible refine gF 78 ?_);refine gX (some 11) Tryz.func78 (impl_Line_isPlace.calls m.out) ?_;intro fs hb;replace c:=kP c hb (.cells #[.string ((rd_T86 b a).f0),.int .i64 ((rd_T86 b a).f1.f0),.int .i64 ((rd_T86 b a).f1.f1),.int .i64 ((rd_T86 b a).f1.f2),.int .i64 ((rd_T86 b a).f1.f3),.string ((rd_T86 b a).f2),.string ((rd_T86 b a).f3)] 86 (0,0));replace HB:=sB hb;(try clear hb);obtain⟨cA,cD,cE,cF,cG,cI,cJ,cL,cM,cN,cO,cP,cQ,cR⟩:=cz7 c)|((with_reducible refine gF 81 ?_);refine gX (some 15) Tryz.func81 (impl_within.calls M.out) ?_;rintro w' ⟨nd,rfl⟩))
    go_ret;exact⟨rE,cB⟩
  ·replace O:=Bool.eq_false_iff.mpr O;subst O;replace H:=iF H;obtain rfl:=Option.some.inj H;have d:0≤(a:Int):=dA;have g:a<(b.length:Int):=dA;obtain⟨U,j,p,q,s,t,u,v,x⟩:=at_T86 HR0.out a d g;cases j;replace d:=eq_true d;replace g:=eq_true g;go_enter Tryz.func137,Tryz.ntmps137
   go_wp2_with (first|((with_reducible refine gN 5 ?_);refine boxZ 5 #[.string (⟨#[]⟩ :ByteArray),.int .i64 0,.int .i64 0,.int .i64 0,.int .i64 0,.string (⟨#[]⟩ :ByteArray),.string (⟨#[]⟩ :ByteArray)] 86 ?_;intro y hg ft hbox hb;have c:=aM hbox;have GW530:=gS hg;have GE530:=gS hg;replace HB:=sB hb;clear hb hbox hg;obtain⟨cS,cT,cU,cV,cW,cX,cY,cZ,c0,c1,c3,c4,c6,c8⟩:=cz7 c)|((with_reducible refine gF 78 ?_);refine gX (some 11) Tryz.func78 (impl_Line_isPlace.calls m.out) ?_;intro fu hb;replace c:=kP c hb (.cells #[.string ((rd_T86 b a).f0),.int .i64 ((rd_T86 b a).f1.f0),.int .i64 ((rd_T86 b a).f1.f1),.int .i64 ((rd_T86 b a).f1.f2),.int .i64 ((rd_T86 b a).f1.f3),.string ((rd_T86 b a).f2),.string ((rd_T86 b a).f3)] 86 (0,0));replace HB:=sB hb;(try clear hb);obtain⟨c9,da,db,dc,dd,de,df,dg,dh,di,dj,dk,dl,dm⟩:=cz7 c)|((with_reducible refine gF 81 ?_);refine gX (some 15) Tryz.func81 (impl_within.calls M.out) ?_;rintro w' ⟨nd,rfl⟩))
   go_ret;exact⟨rE,cB⟩
 ·replace L:=Bool.eq_false_iff.mpr L;subst L;replace H:=iF H;have HC34:=aM H;clear H;have d:0≤(a:Int):=dA;have g:a<(b.length:Int):=dA;obtain⟨U,j,p,q,s,t,u,v,x⟩:=at_T86 HR0.out a d g;cases j;replace d:=eq_true d;replace g:=eq_true g;go_enter Tryz.func137,Tryz.ntmps137
  go_upto_region 4 with(first|((with_reducible refine gN 5 ?_);refine boxZ 5 #[.string (⟨#[]⟩ :ByteArray),.int .i64 0,.int .i64 0,.int .i64 0,.int .i64 0,.string (⟨#[]⟩ :ByteArray),.string (⟨#[]⟩ :ByteArray)] 86 ?_;intro y hg fv hbox hb;have c:=aM hbox;have GW530:=gS hg;have GE530:=gS hg;replace HB:=sB hb;clear hb hbox hg;obtain⟨dn,dp,dq,dr,ds,dt,du,dv,dw,dx,dy,dz,dC,dD⟩:=cz7 c)|((with_reducible refine gF 78 ?_);refine gX (some 11) Tryz.func78 (impl_Line_isPlace.calls m.out) ?_;intro fw hb;replace c:=kP c hb (.cells #[.string ((rd_T86 b a).f0),.int .i64 ((rd_T86 b a).f1.f0),.int .i64 ((rd_T86 b a).f1.f1),.int .i64 ((rd_T86 b a).f1.f2),.int .i64 ((rd_T86 b a).f1.f3),.string ((rd_T86 b a).f2),.string ((rd_T86 b a).f3)] 86 (0,0));replace HB:=sB hb;(try clear hb)))
  (try simp only[Act.put,List.setIfInBounds_toArray,List.set_cons_zero,List.set_cons_succ])
  go_cut [60] (fun dE wc=> ∃ (kq:Nat) (ab:Bool),dE= .bool ab∧Aside0 (impl_lineOk.j0 kq b a ab ((rd_T86 b a).f0) ((rd_T86 b a).f1.f0) ((rd_T86 b a).f1.f1) ((rd_T86 b a).f1.f2) ((rd_T86 b a).f1.f3) ((rd_T86 b a).f2) ((rd_T86 b a).f3)=some r)∧Aside0 (kq≤k)∧Aside0 (wc.heap[y]?=some (.cells #[.string ((rd_T86 b a).f0),.int .i64 ((rd_T86 b a).f1.f0),.int .i64 ((rd_T86 b a).f1.f1),.int .i64 ((rd_T86 b a).f1.f2),.int .i64 ((rd_T86 b a).f1.f3),.string ((rd_T86 b a).f2),.string ((rd_T86 b a).f3)] 86 (0,0)))∧Aside0 (Below w.heap.size w wc))
  case first=>
   have H:=HC34.out;clear HC34;by_cases z:((rd_T86 b a).f0).toList=([] :List UInt8)
   ·rw[if_pos z]at H;obtain⟨A,aE⟩:=eT z;clear z
    (first|rw[A]|(simp only[i64_w,i32_w];rw[A])|skip)
    replace H:=bE H;obtain⟨al,am,H⟩:=H;by_cases W:al=true
    ·subst W;replace H:=iT H;by_cases D:((rd_T86 b a).f1.f2)=0
     ·rw[if_pos D]at H;obtain⟨aF,aG⟩:=eT D;clear D;have H':=aM H;clear H;obtain⟨dF,dG,dH,dI,dJ,dK,dL,dM,dN,dO,dP,dQ,dS,dT⟩:=cz7 c
      go_wp2_with (first|(go_at_call 149;(with_reducible refine(impl_InsOk.calls am.out).mono ?_);rintro e fx ⟨rfl,hb⟩;replace c:=kB c hb;replace HB:=sB hb;(try clear hb);obtain⟨dU,dV,dX,dY,dZ,d0,d1,d2,d3,d4,d5,d6,d7,d8⟩:=cz7 c))
      go_meet
      case rel=>exact⟨_,((((rd_T86 b a).f1.f3) !=0)),rS,H',⟨oL⟩,⟨mK c⟩,⟨cB⟩⟩
     ·rw[if_neg D]at H;obtain⟨aF,aG⟩:=eF D;have H':=aM H;clear H;obtain⟨d9,ea,eb,ec,ed,ee,ef,eg,eh,ei,ej,ek,el,em⟩:=cz7 c
      go_wp2_with (first|(go_at_call 149;(with_reducible refine(impl_InsOk.calls am.out).mono ?_);rintro e fy ⟨rfl,hb⟩;replace c:=kB c hb;replace HB:=sB hb;(try clear hb);obtain⟨en,eo,ep,eq,er,es,et,eu,ev,ew,ex,ey,ez,eA⟩:=cz7 c))
      go_meet
      case rel=>exact⟨_,(true),rS,H',⟨oL⟩,⟨mK c⟩,⟨cB⟩⟩
    ·replace W:=Bool.eq_false_iff.mpr W;subst W;replace H:=iF H;have H':=aM H;clear H;obtain⟨eC,eD,eE,eG,eH,eI,eJ,eK,eL,eM,eN,eO,eP,eQ⟩:=cz7 c
     go_wp2_with (first|(go_at_call 149;(with_reducible refine(impl_InsOk.calls am.out).mono ?_);rintro e fz ⟨rfl,hb⟩;replace c:=kB c hb;replace HB:=sB hb;(try clear hb)))
     go_meet
     case rel=>exact⟨_,(true),rS,H',⟨oL⟩,⟨mK c⟩,⟨cB⟩⟩
   ·rw[if_neg z]at H;obtain⟨A,aE⟩:=eF z
    (first|rw[A]|(simp only[i64_w,i32_w];rw[A])|skip)
    have H':=aM H;clear H;obtain⟨eR,eS,eU,eW,eZ,e0,e1,e2,e3,e4,e5,e6,e7,e8⟩:=cz7 c;go_wp2;go_meet
    case rel=>exact⟨_,(true),rS,H',⟨oL⟩,⟨mK c⟩,⟨cB⟩⟩
  case rest=>
   clear HC34;(try clear fA);(try clear aN);(try clear fB);(try clear aO);(try clear L);(try clear O);(try clear i);(try clear ax);(try clear ay);(try clear az);(try clear n);(try clear aA);(try clear aB);(try clear o);(try clear aC);(try clear aD);(try clear z);(try clear A);(try clear aE);(try clear W);(try clear D);(try clear aF);(try clear aG);(try clear aQ aR aS aT aU aV aW);(try clear a4 a5 a6 a7 a8 a9 ba);(try clear bj bk bl bm bn bo bp);(try clear bz bA bB bC bD bF bG);(try clear bP bQ bR bS bT bU bV);(try clear b8 b9 ca cb cc cd ce);(try clear cm cn co cp cq cr cs);(try clear cA cD cE cF cG cI cJ);(try clear cS cT cU cV cW cX cY);(try clear c9 da db dc dd de df);(try clear dn dp dq dr ds dt du);(try clear dF dG dH dI dJ dK dL);(try clear dU dV dX dY dZ d0 d1);(try clear d9 ea eb ec ed ee ef);(try clear en eo ep eq er es et);(try clear eC eD eE eG eH eI eJ);(try clear eR eS eU eW eZ e0 e1);(try clear aX aY aZ a0 a1 a2 a3);(try clear bb bd be bf bg bh bi);(try clear bq br bs bu bv bw bx);(try clear bH bI bJ bL bM bN bO);(try clear bW bX bY bZ b0 b1 b5);(try clear cf cg ch ci cj ck cl);(try clear ct cu cv cw cx cy cz);(try clear cL cM cN cO cP cQ cR);(try clear cZ c0 c1 c3 c4 c6 c8);(try clear dg dh di dj dk dl dm);(try clear dv dw dx dy dz dC dD);(try clear dM dN dO dP dQ dS dT);(try clear d2 d3 d4 d5 d6 d7 d8);(try clear eg eh ei ej ek el em);(try clear eu ev ew ex ey ez eA);(try clear eK eL eM eN eO eP eQ);(try clear e2 e3 e4 e5 e6 e7 e8);(try clear p q s t u v x);(try clear d);(try clear g);obtain⟨kq,ab,rfl,HA,HJ33,c,HB⟩:=hcut
   cases kq with
   | zero=>exact absurd HA.out (by simp[impl_lineOk.j0])
   | succ kj33=>
    have H:=HA.out;clear HA;simp only[impl_lineOk.j0]at H;by_cases ac:ab=true
    ·subst ac;replace H:=iT H;obtain rfl:=Option.some.inj H;go_wp2;go_ret;exact⟨rE,cB⟩
    ·replace ac:=Bool.eq_false_iff.mpr ac;subst ac;replace H:=iF H;replace H:=bE H;obtain⟨ai,l,H⟩:=H;by_cases ad:ai=true
     ·subst ad;replace H:=iT H;replace H:=bE H;obtain⟨I,aH,H⟩:=H;by_cases E:I≥0
      ·rw[if_pos E]at H;have e9:decide (0≤I)=true:=decide_eq_true E;clear E;replace H:=bE H;obtain⟨ap,fa,H⟩:=H;obtain rfl:=Option.some.inj H;obtain⟨fC,fD,fE,fF,fG,fH,fI,fJ,fK,fL,fM,fN,fO,fP⟩:=cz7 c
       go_wp2_with (first|((with_reducible refine gF 80 ?_);refine gX (some 64) Tryz.func80 (impl_Ins_asks.calls l.out) ?_;intro fS hb;replace c:=kB c hb;replace HB:=sB hb;(try clear hb);obtain⟨fT,fU,fV,fW,fX,fY,fZ,f4,f5,f6,f7,f8,f9,ga⟩:=cz7 c)|((with_reducible refine gF 109 ?_);refine gX (some 69) Tryz.func109 (impl_placeOf.calls aH.out (cH HR0) HC0.out) ?_;intro gb hb;replace c:=kB c hb;replace HB:=sB hb;(try clear hb);obtain⟨gc,ge,gf,gg,gh,gi,gj,gk,gl,gm,gn,go,gp,gq⟩:=cz7 c)|(go_at_call 109;(with_reducible refine(impl_placeOf.calls fa.out ?side1 ?side2).mono ?_);(case side1=>exact cH HR0);(case side2=>exact HC0.out);rintro e gr ⟨rfl,hb⟩;replace c:=kB c hb;replace HB:=sB hb;(try clear hb)))
       go_ret;exact⟨rE,cB⟩
      ·rw[if_neg E]at H;have e9:decide (0≤I)=false:=decide_eq_false E;clear E;obtain rfl:=Option.some.inj H;obtain⟨gs,gt,gu,gv,gw,gx,gy,gz,gB,gE,gG,gH,gI,gJ⟩:=cz7 c
       go_wp2_with (first|((with_reducible refine gF 80 ?_);refine gX (some 64) Tryz.func80 (impl_Ins_asks.calls l.out) ?_;intro gL hb;replace c:=kB c hb;replace HB:=sB hb;(try clear hb);obtain⟨gM,gO,gP,gQ,gR,gT,gU,gZ,g0,g1,g2,g3,g4,g5⟩:=cz7 c)|((with_reducible refine gF 109 ?_);refine gX (some 69) Tryz.func109 (impl_placeOf.calls aH.out (cH HR0) HC0.out) ?_;intro g6 hb;replace c:=kB c hb;replace HB:=sB hb;(try clear hb)))
       go_ret;exact⟨rE,cB⟩
     ·replace ad:=Bool.eq_false_iff.mpr ad;subst ad;replace H:=iF H;by_cases X:((rd_T86 b a).f1.f0)=7
      ·rw[if_pos X]at H;obtain⟨fb,fc⟩:=eT X;clear X;by_cases Y:((rd_T86 b a).f1.f1)=0
       ·rw[if_pos Y]at H;obtain⟨fd,fe⟩:=eT Y;clear Y;replace H:=bE H;obtain⟨J,aI,H⟩:=H;by_cases G:J≥0
        ·rw[if_pos G]at H;have ff:decide (0≤J)=true:=decide_eq_true G;clear G;obtain rfl:=Option.some.inj H;obtain⟨g7,g8,g9,ha,hc,hd,he,hf,hh,hi,hj,hk,hl,hm⟩:=cz7 c
         go_wp2_with (first|((with_reducible refine gF 80 ?_);refine gX (some 64) Tryz.func80 (impl_Ins_asks.calls l.out) ?_;intro hn hb;replace c:=kB c hb;replace HB:=sB hb;(try clear hb);obtain⟨ho,hp,hq,hr,hs,ht,hu,hv,hw,hx,hy,hz,hA,hC⟩:=cz7 c)|(go_at_call 109;(with_reducible refine(impl_placeOf.calls aI.out ?side1 ?side2).mono ?_);(case side1=>exact cH HR0);(case side2=>exact HC0.out);rintro e hD ⟨rfl,hb⟩;replace c:=kB c hb;replace HB:=sB hb;(try clear hb);obtain⟨hE,hF,hG,hH,hI,hJ,hK,hL,hM,hN,hO,hP,hQ,hR⟩:=cz7 c))
         go_ret;exact⟨rE,cB⟩
        ·rw[if_neg G]at H;have ff:decide (0≤J)=false:=decide_eq_false G;clear G;obtain rfl:=Option.some.inj H;obtain⟨hS,hT,hU,hV,hW,hX,hY,hZ,h0,h1,h2,h3,h4,h5⟩:=cz7 c
         go_wp2_with (first|((with_reducible refine gF 80 ?_);refine gX (some 64) Tryz.func80 (impl_Ins_asks.calls l.out) ?_;intro h6 hb;replace c:=kB c hb;replace HB:=sB hb;(try clear hb);obtain⟨h7,h8,h9,ia,ib,ic,ie,ig,ii,ij,ik,il,im,io⟩:=cz7 c)|(go_at_call 109;(with_reducible refine(impl_placeOf.calls aI.out ?side1 ?side2).mono ?_);(case side1=>exact cH HR0);(case side2=>exact HC0.out);rintro e ip ⟨rfl,hb⟩;replace c:=kB c hb;replace HB:=sB hb;(try clear hb)))
         go_ret;exact⟨rE,cB⟩
       ·rw[if_neg Y]at H;obtain⟨fd,fe⟩:=eF Y;obtain rfl:=Option.some.inj H;obtain⟨iq,ir,it,iu,iv,iw,ix,iy,iz,iA,iB,iC,iD,iE⟩:=cz7 c
        go_wp2_with (first|((with_reducible refine gF 80 ?_);refine gX (some 64) Tryz.func80 (impl_Ins_asks.calls l.out) ?_;intro iG hb;replace c:=kB c hb;replace HB:=sB hb;(try clear hb);obtain⟨iH,iI,iJ,iK,iL,iM,iN,iO,iP,iQ,iR,iS,iU,iV⟩:=cz7 c))
        go_ret;exact⟨rE,cB⟩
      ·rw[if_neg X]at H;obtain⟨fb,fc⟩:=eF X;by_cases aa:((rd_T86 b a).f2).toList=([] :List UInt8)
       ·rw[if_pos aa]at H;obtain⟨fg,fh⟩:=eT aa;clear aa;obtain rfl:=Option.some.inj H;obtain⟨iW,iX,iY,iZ,i0,i1,i2,i3,i4,i5,i6,i7,i8,i9⟩:=cz7 c
        go_wp2_with (first|((with_reducible refine gF 80 ?_);refine gX (some 64) Tryz.func80 (impl_Ins_asks.calls l.out) ?_;intro ja hb;replace c:=kB c hb;replace HB:=sB hb;(try clear hb);obtain⟨jb,jc,jd,je,jf,jg,jh,ji,jj,jk,jl,jm,jn,jo⟩:=cz7 c))
        go_ret;exact⟨rE,cB⟩
       ·rw[if_neg aa]at H;obtain⟨fg,fh⟩:=eF aa;obtain rfl:=Option.some.inj H;obtain⟨jp,jq,jr,js,jt,ju,jv,jw,jx,jy,jz,jA,jB,jC⟩:=cz7 c
        go_wp2_with (first|((with_reducible refine gF 80 ?_);refine gX (some 64) Tryz.func80 (impl_Ins_asks.calls l.out) ?_;intro jD hb;replace c:=kB c hb;replace HB:=sB hb;(try clear hb);obtain⟨jE,jF,jG,jH,jI,jJ,jK,jL,jM,jN,jO,jP,jQ,jR⟩:=cz7 c))
        go_ret;exact⟨rE,cB⟩
end Go.Proofs.YtpbalojiaghfhaaGreat.PFnCompilesTold
