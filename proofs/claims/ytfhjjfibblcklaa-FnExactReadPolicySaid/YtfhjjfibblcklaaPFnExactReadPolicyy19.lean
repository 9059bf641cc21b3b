import Derived.Test.YtfhjjfibblcklaaPFnExactReadPolicyy0
import Derived.Test.YtfhjjfibblcklaaPFnExactReadPolicyy18
namespace Go.Proofs.Ytfhjjfibblcklaa.PFnExactReadPolicy
open Go.RowKit Go.Proofs.YtfhjjfibblcklaaW.PrintWords Go.Proofs.YtfhjjfibblcklaaW.PrintLast Go.Proofs.YtfhjjfibblcklaaW.PrintMore Go.Proofs.YtfhjjfibblcklaaW.Z
open Kd
attribute [local go_sem] isS max2_int min2_int max_two min_two max_three min_three max_four min_four
set_option linter.unusedVariables false
set_option linter.unusedSimpArgs false
def laws_markPolicy.f (k:Nat) (ae:Int) (af:Int) (ag:Int) (v:List (S43)) (c:Int):Option (Int×List (S43)):=laws_markRuleS.f k v c
set_option maxHeartbeats 8000000 in
set_option maxRecDepth 100000 in
theorem laws_markPolicy.calls (k:Nat) (ae:Int) (af:Int) (ag:Int) (P0_3_:Nat→Prop) (u9000_:Value) (v:List (S43)) (c:Int) (r1:Int) (r2:List (S43)) (ah w:World) (hB:Below ah.heap.size ah w) (bU:Kd.S k43 43 w ah.heap.size P0_3_ u9000_ v) (h:laws_markPolicy.f k ae af ag v c=some (r1,r2)) :
 Calls Try.prog 7 #[.agg #[.int .i64 ae,.int .i64 af,.int .i64 ag,u9000_],.int .i64 c] w fun e w'=>e= .returned (.int .i64 r1)∧Kd.S k43 43 w' ah.heap.size (fun k_=>(P0_3_ k_∨w.heap.size≤k_)) u9000_ r2∧Below ah.heap.size ah w'∧Kept w w' (fun k_=>P0_3_ k_):=by
 have hu50:=Try.underlying24;have aq:=aM (show laws_markRuleS.f k v c=some (r1,r2)from h);have bm:=aM bU;have HB:=aM hB
 have HK:=aM (Kept.refl w (fun k_=>P0_3_ k_))
 clear hB bU h;obtain⟨cf,E,cg⟩:=R_slice (S_R bm.out);subst cg;go_enter Try.func7,Try.ntmps7
 go_wp2_with (first|((with_reducible refine gN 2 ?_);refine boxZ 2 #[.int .i64 ae,.int .i64 af,.int .i64 ag,.slice cf v.length E] 24 ?_;intro cN hg bn hbox hb;have ch:=aM hbox;have n0_:=aM (S_below bm.out hb);have n1_:=aM (HK.out.below hb);have n2_:=aM (show Below ah.heap.size ah bn from below_step HB.out hb);clear bm HK HB hb hbox hg;obtain⟨ci,cj,ck,cl,cm,cn,co,cp⟩:=cz4 ch)|(go_at_call 22;(with_reducible refine(laws_markRuleS.calls k P0_3_ _ v c r1 r2 ah bn n2_.out n0_.out aq.out).mono ?_);rintro e cO ⟨rfl,hr,hb,hk⟩;have m0_:=aM (S_mono hr (fun k_ hk_=>hk_.imp id (fun h2=>Nat.le_trans n1_.out.1 h2)));have m1_:=aM (n1_.out.then_ hk (fun k_ h2=> .inl h2));have m2_:=aM hb))
 go_ret;exact⟨rfl,m0_.out,m2_.out,m1_.out⟩
def laws_heldIntS.l0:Nat→List Int→Int→Int→Option (Int)
  | 0,_,_,_=>none
  | k+1,p,x,m=>if m<(p.length:Int)then(if 0≤m then(if(rd p m)=x then(laws_heldIntS.l0 k p (wrap64 (x+1)) (wrap64 (m+1)))else(some (-1)))else(none))else(some x)
def laws_heldIntS.f (k:Nat) (b:List Int) (c:Int):Option (Int):=laws_heldIntS.l0 k b c 0
set_option maxHeartbeats 8000000 in
set_option maxRecDepth 100000 in
theorem laws_heldIntS.calls {k:Nat}{am:Option Addr}{an:Nat}{b:List Int}{c:Int}{r:Int}{w:World}(h:laws_heldIntS.f k b c=some r)(ao:Kd.C (Kd.int .i64) w am b.length b)(ap:b.length≤an) :
 Calls Try.prog 52 #[.slice am b.length an,.int .i64 c] w fun e w'=>e= .returned (.int .i64 r)∧Drawn0 w w':=by
 have HR0:=aM ao;have HC0:=aM ap;clear ao ap;have H:(laws_heldIntS.l0 k b c 0)=some r:=h;clear h;have H':=aM H;clear H;go_enter Try.func52,Try.ntmps52;go_wp2
 go_loopg [1,5] k (fun kq aN aO w'=> ∃ (n:Int) (a:Int),aN= .int .i64 n∧aO= .int .i64 a∧Aside0 (laws_heldIntS.l0 kq b n a=some r)∧Aside0 (kq≤k)∧Drawn0 w w')
 case atStart=>exact⟨(c),(0),rS,rS,H',⟨Nat.le_refl _⟩,by repeat(first|exact Drawn0.refl _|apply Drawn0.step)⟩
 case round=>
  clear H';obtain⟨n,a,rfl,rfl,HA,HK1,⟨m1,rfl⟩⟩:=hrel
  cases gk with
  | zero=>exact absurd HA.out (by simp[laws_heldIntS.l0])
  | succ k1=>
   have H:=HA.out;clear HA;simp only[laws_heldIntS.l0]at H;by_cases o:a<(b.length:Int)
   ·rw[if_pos o]at H;have aP:=decide_eq_true o;clear o;replace H:=gD H;obtain⟨a3,H⟩:=H;by_cases U:(rd b a)=n
    ·rw[if_pos U]at H;obtain⟨bo,bp⟩:=eT U;clear U;have H':=aM H;clear H;have ar:0≤(a:Int):=dA;have au:a<(b.length:Int):=dA;obtain⟨cq,bq,cr⟩:=at_int HR0.out a ar au;cases bq;replace ar:=eq_true ar;replace au:=eq_true au;go_wp2;go_roundg k1
     case measure=>exact oK
     case rel=>exact⟨(wrap64 (n+1)),(wrap64 (a+1)),rS,rS,H',⟨oK⟩,by repeat(first|exact Drawn0.refl _|apply Drawn0.step)⟩
    ·rw[if_neg U]at H;obtain⟨bo,bp⟩:=eF U;obtain rfl:=Option.some.inj H;have ar:0≤(a:Int):=dA;have au:a<(b.length:Int):=dA;obtain⟨cq,bq,cr⟩:=at_int HR0.out a ar au;cases bq;replace ar:=eq_true ar;replace au:=eq_true au;go_wp2;go_ret
     exact⟨by first|rfl|(simp;done)|(simp[*];done),by repeat(first|exact Drawn0.refl _|apply Drawn0.step)⟩
   ·rw[if_neg o]at H;have aP:=decide_eq_false o;clear o;obtain rfl:=Option.some.inj H;go_wp2;go_ret
    exact⟨by first|rfl|(simp;done)|(simp[*];done),by repeat(first|exact Drawn0.refl _|apply Drawn0.step)⟩
def laws_heldCondS.l0:Nat→List (S66)→Int→Int→Option (Int)
  | 0,_,_,_=>none
  | k+1,p,x,m=>if m<(p.length:Int)then(if 0≤m then(if((rd_T66 p m).f0)=x then(if((rd_T66 p m).f1.f0)=(wrap64 (x+1))then(if((rd_T66 p m).f1.f1)=(wrap64 ((wrap64 (x+1))+1))then(if((rd_T66 p m).f2)=(wrap64 ((wrap64 ((wrap64 (x+1))+1))+1))then(if((rd_T66 p m).f3.f0)=(wrap64 ((wrap64 ((wrap64 ((wrap64 (x+1))+1))+1))+1))then(if((rd_T66 p m).f3.f1)=(wrap64 ((wrap64 ((wrap64 ((wrap64 ((wrap64 (x+1))+1))+1))+1))+1))then(laws_heldCondS.l0 k p (wrap64 ((wrap64 ((wrap64 ((wrap64 ((wrap64 ((wrap64 (x+1))+1))+1))+1))+1))+1)) (wrap64 (m+1)))else(some (-1)))else(some (-1)))else(some (-1)))else(some (-1)))else(some (-1)))else(some (-1)))else(none))else(some x)
def laws_heldCondS.f (k:Nat) (b:List (S66)) (c:Int):Option (Int):=laws_heldCondS.l0 k b c 0
set_option maxHeartbeats 8000000 in
set_option maxRecDepth 100000 in
theorem laws_heldCondS.calls {k:Nat}{am:Option Addr}{an:Nat}{b:List (S66)}{c:Int}{r:Int}{w:World}(h:laws_heldCondS.f k b c=some r)(ao:Kd.C k66 w am b.length b)(ap:b.length≤an) :
 Calls Try.prog 53 #[.slice am b.length an,.int .i64 c] w fun e w'=>e= .returned (.int .i64 r)∧Drawn0 w w':=by
 have HR0:=aM ao;have HC0:=aM ap;clear ao ap;have H:(laws_heldCondS.l0 k b c 0)=some r:=h;clear h;have H':=aM H;clear H;go_enter Try.func53,Try.ntmps53;go_wp2
 go_loopg [1,5] k (fun kq aN aO w'=> ∃ (n:Int) (a:Int),aN= .int .i64 n∧aO= .int .i64 a∧Aside0 (laws_heldCondS.l0 kq b n a=some r)∧Aside0 (kq≤k)∧Drawn0 w w')
 case atStart=>exact⟨(c),(0),rS,rS,H',⟨Nat.le_refl _⟩,by repeat(first|exact Drawn0.refl _|apply Drawn0.step)⟩
 case round=>
  clear H';obtain⟨n,a,rfl,rfl,HA,HK1,⟨m1,rfl⟩⟩:=hrel
  cases gk with
  | zero=>exact absurd HA.out (by simp[laws_heldCondS.l0])
  | succ k1=>
   have H:=HA.out;clear HA;simp only[laws_heldCondS.l0]at H;by_cases o:a<(b.length:Int)
   ·rw[if_pos o]at H;have aP:=decide_eq_true o;clear o;replace H:=gD H;obtain⟨a3,H⟩:=H;by_cases U:((rd_T66 b a).f0)=n
    ·rw[if_pos U]at H;obtain⟨bo,bp⟩:=eT U;clear U;by_cases M:((rd_T66 b a).f1.f0)=(wrap64 (n+1))
     ·rw[if_pos M]at H;obtain⟨br,cs⟩:=eT M;clear M;by_cases aQ:((rd_T66 b a).f1.f1)=(wrap64 ((wrap64 (n+1))+1))
      ·rw[if_pos aQ]at H;obtain⟨ct,cu⟩:=eT aQ;clear aQ;by_cases O:((rd_T66 b a).f2)=(wrap64 ((wrap64 ((wrap64 (n+1))+1))+1))
       ·rw[if_pos O]at H;obtain⟨bs,cv⟩:=eT O;clear O;by_cases E:((rd_T66 b a).f3.f0)=(wrap64 ((wrap64 ((wrap64 ((wrap64 (n+1))+1))+1))+1))
        ·rw[if_pos E]at H;obtain⟨bu,bv⟩:=eT E;clear E;by_cases W:((rd_T66 b a).f3.f1)=(wrap64 ((wrap64 ((wrap64 ((wrap64 ((wrap64 (n+1))+1))+1))+1))+1))
         ·rw[if_pos W]at H;obtain⟨bw,bx⟩:=eT W;clear W;have H':=aM H;clear H;have d:0≤(a:Int):=dA;have g:a<(b.length:Int):=dA;obtain⟨i,G,aF,aG,aH,aI,aJ,aK⟩:=at_T66 HR0.out a d g;cases G;replace d:=eq_true d;replace g:=eq_true g;have j:0≤(a:Int):=dA;have l:a<(b.length:Int):=dA;obtain⟨X,Y,aR,aS,aT,aU,aV,aW⟩:=at_T66 HR0.out a j l
          obtain rfl:i=X:=(by injection Y)
          replace j:=eq_true j;replace l:=eq_true l;have q:0≤(a:Int):=dA;have s:a<(b.length:Int):=dA;obtain⟨ai,aj,a4,a5,a6,a7,a8,a9⟩:=at_T66 HR0.out a q s
          obtain rfl:i=ai:=(by injection aj)
          replace q:=eq_true q;replace s:=eq_true s;have y:0≤(a:Int):=dA;have z:a<(b.length:Int):=dA;obtain⟨av,aw,bz,bA,bB,bC,bD,bF⟩:=at_T66 HR0.out a y z
          obtain rfl:i=av:=(by injection aw)
          replace y:=eq_true y;replace z:=eq_true z;have aa:0≤(a:Int):=dA;have ab:a<(b.length:Int):=dA;obtain⟨aX,aY,bV,bW,bX,bY,bZ,b0⟩:=at_T66 HR0.out a aa ab
          obtain rfl:i=aX:=(by injection aY)
          replace aa:=eq_true aa;replace ab:=eq_true ab;have ax:0≤(a:Int):=dA;have ay:a<(b.length:Int):=dA;obtain⟨bG,bH,cw,cx,cy,cz,cA,cD⟩:=at_T66 HR0.out a ax ay
          obtain rfl:i=bG:=(by injection bH)
          replace ax:=eq_true ax;replace ay:=eq_true ay;go_wp2;go_roundg k1
          case measure=>exact oK
          case rel=>exact⟨(wrap64 ((wrap64 ((wrap64 ((wrap64 ((wrap64 ((wrap64 (n+1))+1))+1))+1))+1))+1)),(wrap64 (a+1)),rS,rS,H',⟨oK⟩,by repeat(first|exact Drawn0.refl _|apply Drawn0.step)⟩
         ·rw[if_neg W]at H;obtain⟨bw,bx⟩:=eF W;obtain rfl:=Option.some.inj H;have d:0≤(a:Int):=dA;have g:a<(b.length:Int):=dA;obtain⟨i,G,aF,aG,aH,aI,aJ,aK⟩:=at_T66 HR0.out a d g;cases G;replace d:=eq_true d;replace g:=eq_true g;have j:0≤(a:Int):=dA;have l:a<(b.length:Int):=dA;obtain⟨X,Y,aR,aS,aT,aU,aV,aW⟩:=at_T66 HR0.out a j l
          obtain rfl:i=X:=(by injection Y)
          replace j:=eq_true j;replace l:=eq_true l;have q:0≤(a:Int):=dA;have s:a<(b.length:Int):=dA;obtain⟨ai,aj,a4,a5,a6,a7,a8,a9⟩:=at_T66 HR0.out a q s
          obtain rfl:i=ai:=(by injection aj)
          replace q:=eq_true q;replace s:=eq_true s;have y:0≤(a:Int):=dA;have z:a<(b.length:Int):=dA;obtain⟨av,aw,bz,bA,bB,bC,bD,bF⟩:=at_T66 HR0.out a y z
          obtain rfl:i=av:=(by injection aw)
          replace y:=eq_true y;replace z:=eq_true z;have aa:0≤(a:Int):=dA;have ab:a<(b.length:Int):=dA;obtain⟨aX,aY,bV,bW,bX,bY,bZ,b0⟩:=at_T66 HR0.out a aa ab
          obtain rfl:i=aX:=(by injection aY)
          replace aa:=eq_true aa;replace ab:=eq_true ab;have ax:0≤(a:Int):=dA;have ay:a<(b.length:Int):=dA;obtain⟨bG,bH,cw,cx,cy,cz,cA,cD⟩:=at_T66 HR0.out a ax ay
          obtain rfl:i=bG:=(by injection bH)
          replace ax:=eq_true ax;replace ay:=eq_true ay;go_wp2;go_ret
          exact⟨by first|rfl|(simp;done)|(simp[*];done),by repeat(first|exact Drawn0.refl _|apply Drawn0.step)⟩
        ·rw[if_neg E]at H;obtain⟨bu,bv⟩:=eF E;obtain rfl:=Option.some.inj H;have d:0≤(a:Int):=dA;have g:a<(b.length:Int):=dA;obtain⟨i,G,aF,aG,aH,aI,aJ,aK⟩:=at_T66 HR0.out a d g;cases G;replace d:=eq_true d;replace g:=eq_true g;have j:0≤(a:Int):=dA;have l:a<(b.length:Int):=dA;obtain⟨X,Y,aR,aS,aT,aU,aV,aW⟩:=at_T66 HR0.out a j l
         obtain rfl:i=X:=(by injection Y)
         replace j:=eq_true j;replace l:=eq_true l;have q:0≤(a:Int):=dA;have s:a<(b.length:Int):=dA;obtain⟨ai,aj,a4,a5,a6,a7,a8,a9⟩:=at_T66 HR0.out a q s
         obtain rfl:i=ai:=(by injection aj)
         replace q:=eq_true q;replace s:=eq_true s;have y:0≤(a:Int):=dA;have z:a<(b.length:Int):=dA;obtain⟨av,aw,bz,bA,bB,bC,bD,bF⟩:=at_T66 HR0.out a y z
         obtain rfl:i=av:=(by injection aw)
         replace y:=eq_true y;replace z:=eq_true z;have aa:0≤(a:Int):=dA;have ab:a<(b.length:Int):=dA;obtain⟨aX,aY,bV,bW,bX,bY,bZ,b0⟩:=at_T66 HR0.out a aa ab
         obtain rfl:i=aX:=(by injection aY)
         replace aa:=eq_true aa;replace ab:=eq_true ab;go_wp2;go_ret
         exact⟨by first|rfl|(simp;done)|(simp[*];done),by repeat(first|exact Drawn0.refl _|apply Drawn0.step)⟩
       ·rw[if_neg O]at H;obtain⟨bs,cv⟩:=eF O;obtain rfl:=Option.some.inj H;have d:0≤(a:Int):=dA;have g:a<(b.length:Int):=dA;obtain⟨i,G,aF,aG,aH,aI,aJ,aK⟩:=at_T66 HR0.out a d g;cases G;replace d:=eq_true d;replace g:=eq_true g;have j:0≤(a:Int):=dA;have l:a<(b.length:Int):=dA;obtain⟨X,Y,aR,aS,aT,aU,aV,aW⟩:=at_T66 HR0.out a j l
        obtain rfl:i=X:=(by injection Y)
        replace j:=eq_true j;replace l:=eq_true l;have q:0≤(a:Int):=dA;have s:a<(b.length:Int):=dA;obtain⟨ai,aj,a4,a5,a6,a7,a8,a9⟩:=at_T66 HR0.out a q s
        obtain rfl:i=ai:=(by injection aj)
        replace q:=eq_true q;replace s:=eq_true s;have y:0≤(a:Int):=dA;have z:a<(b.length:Int):=dA;obtain⟨av,aw,bz,bA,bB,bC,bD,bF⟩:=at_T66 HR0.out a y z
        obtain rfl:i=av:=(by injection aw)
        replace y:=eq_true y;replace z:=eq_true z;go_wp2;go_ret
        exact⟨by first|rfl|(simp;done)|(simp[*];done),by repeat(first|exact Drawn0.refl _|apply Drawn0.step)⟩
      ·rw[if_neg aQ]at H;obtain⟨ct,cu⟩:=eF aQ;obtain rfl:=Option.some.inj H;have d:0≤(a:Int):=dA;have g:a<(b.length:Int):=dA;obtain⟨i,G,aF,aG,aH,aI,aJ,aK⟩:=at_T66 HR0.out a d g;cases G;replace d:=eq_true d;replace g:=eq_true g;have j:0≤(a:Int):=dA;have l:a<(b.length:Int):=dA;obtain⟨X,Y,aR,aS,aT,aU,aV,aW⟩:=at_T66 HR0.out a j l
       obtain rfl:i=X:=(by injection Y)
       replace j:=eq_true j;replace l:=eq_true l;have q:0≤(a:Int):=dA;have s:a<(b.length:Int):=dA;obtain⟨ai,aj,a4,a5,a6,a7,a8,a9⟩:=at_T66 HR0.out a q s
       obtain rfl:i=ai:=(by injection aj)
       replace q:=eq_true q;replace s:=eq_true s;go_wp2;go_ret
       exact⟨by first|rfl|(simp;done)|(simp[*];done),by repeat(first|exact Drawn0.refl _|apply Drawn0.step)⟩
     ·rw[if_neg M]at H;obtain⟨br,cs⟩:=eF M;obtain rfl:=Option.some.inj H;have d:0≤(a:Int):=dA;have g:a<(b.length:Int):=dA;obtain⟨i,G,aF,aG,aH,aI,aJ,aK⟩:=at_T66 HR0.out a d g;cases G;replace d:=eq_true d;replace g:=eq_true g;have j:0≤(a:Int):=dA;have l:a<(b.length:Int):=dA;obtain⟨X,Y,aR,aS,aT,aU,aV,aW⟩:=at_T66 HR0.out a j l
      obtain rfl:i=X:=(by injection Y)
      replace j:=eq_true j;replace l:=eq_true l;go_wp2;go_ret
      exact⟨by first|rfl|(simp;done)|(simp[*];done),by repeat(first|exact Drawn0.refl _|apply Drawn0.step)⟩
    ·rw[if_neg U]at H;obtain⟨bo,bp⟩:=eF U;obtain rfl:=Option.some.inj H;have d:0≤(a:Int):=dA;have g:a<(b.length:Int):=dA;obtain⟨i,G,aF,aG,aH,aI,aJ,aK⟩:=at_T66 HR0.out a d g;cases G;replace d:=eq_true d;replace g:=eq_true g;go_wp2;go_ret
     exact⟨by first|rfl|(simp;done)|(simp[*];done),by repeat(first|exact Drawn0.refl _|apply Drawn0.step)⟩
   ·rw[if_neg o]at H;have aP:=decide_eq_false o;clear o;obtain rfl:=Option.some.inj H;go_wp2;go_ret
    exact⟨by first|rfl|(simp;done)|(simp[*];done),by repeat(first|exact Drawn0.refl _|apply Drawn0.step)⟩
def laws_heldRuleS.l0:Nat→List (S43)→Int→Int→Option (Int)
  | 0,_,_,_=>none
  | k+1,p,x,m=>if m<(p.length:Int)then(if 0≤m then((laws_heldIntS.f k ((rd_T43 p m).f0) x).bind fun ba=>(if ba<0 then(some (-1))else((laws_heldCondS.f k ((rd_T43 p m).f1) ba).bind fun ak=>(if ak<0 then(some (-1))else(if((rd_T43 p m).f2)=ak then(if((rd_T43 p m).f3)=(wrap64 (ak+1))then(laws_heldRuleS.l0 k p (wrap64 ((wrap64 (ak+1))+1)) (wrap64 (m+1)))else(some (-1)))else(some (-1)))))))else(none))else(some x)
def laws_heldRuleS.f (k:Nat) (b:List (S43)) (c:Int):Option (Int):=laws_heldRuleS.l0 k b c 0
set_option maxHeartbeats 8000000 in
set_option maxRecDepth 100000 in
theorem laws_heldRuleS.calls {k:Nat}{am:Option Addr}{an:Nat}{b:List (S43)}{c:Int}{r:Int}{w:World}(h:laws_heldRuleS.f k b c=some r)(ao:Kd.C k43 w am b.length b)(ap:b.length≤an) :
 Calls Try.prog 23 #[.slice am b.length an,.int .i64 c] w fun e w'=>e= .returned (.int .i64 r)∧Drawn0 w w':=by
 have HR0:=aM ao;have HC0:=aM ap;clear ao ap;have H:(laws_heldRuleS.l0 k b c 0)=some r:=h;clear h;have H':=aM H;clear H;go_enter Try.func23,Try.ntmps23;go_wp2
 go_loopg [1,5] k (fun kq aN aO w'=> ∃ (n:Int) (a:Int),aN= .int .i64 n∧aO= .int .i64 a∧Aside0 (laws_heldRuleS.l0 kq b n a=some r)∧Aside0 (kq≤k)∧Drawn0 w w')
 case atStart=>exact⟨(c),(0),rS,rS,H',⟨Nat.le_refl _⟩,by repeat(first|exact Drawn0.refl _|apply Drawn0.step)⟩
 case round=>
  clear H';obtain⟨n,a,rfl,rfl,HA,HK1,⟨m1,rfl⟩⟩:=hrel
  cases gk with
  | zero=>exact absurd HA.out (by simp[laws_heldRuleS.l0])
  | succ k1=>
   have H:=HA.out;clear HA;simp only[laws_heldRuleS.l0]at H;by_cases o:a<(b.length:Int)
   ·rw[if_pos o]at H;have aP:=decide_eq_true o;clear o;replace H:=gD H;obtain⟨a3,H⟩:=H;replace H:=bE H;obtain⟨ba,aq,H⟩:=H;by_cases M:ba<0
    ·rw[if_pos M]at H;have br:=decide_eq_true M;clear M;obtain rfl:=Option.some.inj H;have t:0≤(a:Int):=dA;have u:a<(b.length:Int):=dA;obtain⟨I,bb,bd,be,bf,al,J,L,bg,bh,hl668_0,hi668_0,hl668_1,hi668_1⟩:=at_T43 HR0.out a t u;cases al;have HR668_0:=aM hi668_0;have HC668_0:=aM hl668_0;clear hi668_0 hl668_0;have HR668_1:=aM hi668_1;have HC668_1:=aM hl668_1;clear hi668_1 hl668_1;replace t:=eq_true t;replace u:=eq_true u
     go_wp2_with (first|((with_reducible refine gF 52 ?_);refine gX (some 18) Try.func52 (laws_heldIntS.calls aq.out (cC HR668_0.out) HC668_0.out) ?_;rintro w' ⟨nd,rfl⟩))
     go_ret
     exact⟨by first|rfl|(simp;done)|(simp[*];done),by repeat(first|exact Drawn0.refl _|apply Drawn0.step)⟩
    ·rw[if_neg M]at H;have br:=decide_eq_false M;clear M;replace H:=bE H;obtain⟨ak,bi,H⟩:=H;by_cases O:ak<0
     ·rw[if_pos O]at H;have bs:=decide_eq_true O;clear O;obtain rfl:=Option.some.inj H;have t:0≤(a:Int):=dA;have u:a<(b.length:Int):=dA;obtain⟨I,bb,bd,be,bf,al,J,L,bg,bh,hl668_0,hi668_0,hl668_1,hi668_1⟩:=at_T43 HR0.out a t u;cases al;have HR668_0:=aM hi668_0;have HC668_0:=aM hl668_0;clear hi668_0 hl668_0;have HR668_1:=aM hi668_1;have HC668_1:=aM hl668_1;clear hi668_1 hl668_1;replace t:=eq_true t;replace u:=eq_true u
      go_wp2_with (first|((with_reducible refine gF 52 ?_);refine gX (some 18) Try.func52 (laws_heldIntS.calls aq.out (cC HR668_0.out) HC668_0.out) ?_;rintro w' ⟨nd,rfl⟩;have A:0≤(a:Int):=dA;have D:a<(b.length:Int):=dA;obtain⟨az,bI,bJ,bL,bM,aA,aB,aC,bN,bO,hl670_0,hi670_0,hl670_1,hi670_1⟩:=at_T43 HR0.out a A D;obtain rfl:I=az:=(by injection aA);have HR670_0:=aM hi670_0;have HC670_0:=aM hl670_0;clear hi670_0 hl670_0;have HR670_1:=aM hi670_1;have HC670_1:=aM hl670_1;clear hi670_1 hl670_1;replace A:=eq_true A;replace D:=eq_true D;have ea_:=Option.some.inj (J.symm.trans aB);injection ea_ with ea_ en_ ec_;subst ea_;subst ec_;clear en_;have ea_:=Option.some.inj (L.symm.trans aC);injection ea_ with ea_ en_ ec_;subst ea_;subst ec_;clear en_)|((with_reducible refine gF 53 ?_);refine gX (some 27) Try.func53 (laws_heldCondS.calls bi.out (cC HR670_1.out) HC670_1.out) ?_;rintro w' ⟨nd,rfl⟩))
      go_ret
      exact⟨by first|rfl|(simp;done)|(simp[*];done),by repeat(first|exact Drawn0.refl _|apply Drawn0.step)⟩
     ·rw[if_neg O]at H;have bs:=decide_eq_false O;clear O;by_cases E:((rd_T43 b a).f2)=ak
      ·rw[if_pos E]at H;obtain⟨bu,bv⟩:=eT E;clear E;by_cases W:((rd_T43 b a).f3)=(wrap64 (ak+1))
       ·rw[if_pos W]at H;obtain⟨bw,bx⟩:=eT W;clear W;have H':=aM H;clear H;have t:0≤(a:Int):=dA;have u:a<(b.length:Int):=dA;obtain⟨I,bb,bd,be,bf,al,J,L,bg,bh,hl668_0,hi668_0,hl668_1,hi668_1⟩:=at_T43 HR0.out a t u;cases al;have HR668_0:=aM hi668_0;have HC668_0:=aM hl668_0;clear hi668_0 hl668_0;have HR668_1:=aM hi668_1;have HC668_1:=aM hl668_1;clear hi668_1 hl668_1;replace t:=eq_true t;replace u:=eq_true u
        go_wp2_with (first|((with_reducible refine gF 52 ?_);refine gX (some 18) Try.func52 (laws_heldIntS.calls aq.out (cC HR668_0.out) HC668_0.out) ?_;rintro w' ⟨nd,rfl⟩;have A:0≤(a:Int):=dA;have D:a<(b.length:Int):=dA;obtain⟨az,bI,bJ,bL,bM,aA,aB,aC,bN,bO,hl670_0,hi670_0,hl670_1,hi670_1⟩:=at_T43 HR0.out a A D;obtain rfl:I=az:=(by injection aA);have HR670_0:=aM hi670_0;have HC670_0:=aM hl670_0;clear hi670_0 hl670_0;have HR670_1:=aM hi670_1;have HC670_1:=aM hl670_1;clear hi670_1 hl670_1;replace A:=eq_true A;replace D:=eq_true D;have ea_:=Option.some.inj (J.symm.trans aB);injection ea_ with ea_ en_ ec_;subst ea_;subst ec_;clear en_;have ea_:=Option.some.inj (L.symm.trans aC);injection ea_ with ea_ en_ ec_;subst ea_;subst ec_;clear en_)|((with_reducible refine gF 53 ?_);refine gX (some 27) Try.func53 (laws_heldCondS.calls bi.out (cC HR670_1.out) HC670_1.out) ?_;rintro w' ⟨nd,rfl⟩;have ac:0≤(a:Int):=dA;have ad:a<(b.length:Int):=dA;obtain⟨aZ,b1,b5,b8,b9,a0,a1,a2,ca,cb,hl672_0,hi672_0,hl672_1,hi672_1⟩:=at_T43 HR0.out a ac ad;obtain rfl:I=aZ:=(by injection a0);have HR672_0:=aM hi672_0;have HC672_0:=aM hl672_0;clear hi672_0 hl672_0;have HR672_1:=aM hi672_1;have HC672_1:=aM hl672_1;clear hi672_1 hl672_1;replace ac:=eq_true ac;replace ad:=eq_true ad;have ea_:=Option.some.inj (J.symm.trans a1);injection ea_ with ea_ en_ ec_;subst ea_;subst ec_;clear en_;have ea_:=Option.some.inj (L.symm.trans a2);injection ea_ with ea_ en_ ec_;subst ea_;subst ec_;clear en_;have aD:0≤(a:Int):=dA;have aE:a<(b.length:Int):=dA;obtain⟨bP,cE,cF,cG,cI,bQ,bR,bS,cJ,cL,hl673_0,hi673_0,hl673_1,hi673_1⟩:=at_T43 HR0.out a aD aE;obtain rfl:I=bP:=(by injection bQ);have HR673_0:=aM hi673_0;have HC673_0:=aM hl673_0;clear hi673_0 hl673_0;have HR673_1:=aM hi673_1;have HC673_1:=aM hl673_1;clear hi673_1 hl673_1;replace aD:=eq_true aD;replace aE:=eq_true aE;have ea_:=Option.some.inj (J.symm.trans bR);injection ea_ with ea_ en_ ec_;subst ea_;subst ec_;clear en_;have ea_:=Option.some.inj (L.symm.trans bS);injection ea_ with ea_ en_ ec_;subst ea_;subst ec_;clear en_))
        go_roundg k1
        case measure=>exact oK
        case rel=>exact⟨(wrap64 ((wrap64 (ak+1))+1)),(wrap64 (a+1)),rS,rS,H',⟨oK⟩,by repeat(first|exact Drawn0.refl _|apply Drawn0.step)⟩
       ·rw[if_neg W]at H;obtain⟨bw,bx⟩:=eF W;obtain rfl:=Option.some.inj H;have t:0≤(a:Int):=dA;have u:a<(b.length:Int):=dA;obtain⟨I,bb,bd,be,bf,al,J,L,bg,bh,hl668_0,hi668_0,hl668_1,hi668_1⟩:=at_T43 HR0.out a t u;cases al;have HR668_0:=aM hi668_0;have HC668_0:=aM hl668_0;clear hi668_0 hl668_0;have HR668_1:=aM hi668_1;have HC668_1:=aM hl668_1;clear hi668_1 hl668_1;replace t:=eq_true t;replace u:=eq_true u
        go_wp2_with (first|((with_reducible refine gF 52 ?_);refine gX (some 18) Try.func52 (laws_heldIntS.calls aq.out (cC HR668_0.out) HC668_0.out) ?_;rintro w' ⟨nd,rfl⟩;have A:0≤(a:Int):=dA;have D:a<(b.length:Int):=dA;obtain⟨az,bI,bJ,bL,bM,aA,aB,aC,bN,bO,hl670_0,hi670_0,hl670_1,hi670_1⟩:=at_T43 HR0.out a A D;obtain rfl:I=az:=(by injection aA);have HR670_0:=aM hi670_0;have HC670_0:=aM hl670_0;clear hi670_0 hl670_0;have HR670_1:=aM hi670_1;have HC670_1:=aM hl670_1;clear hi670_1 hl670_1;replace A:=eq_true A;replace D:=eq_true D;have ea_:=Option.some.inj (J.symm.trans aB);injection ea_ with ea_ en_ ec_;subst ea_;subst ec_;clear en_;have ea_:=Option.some.inj (L.symm.trans aC);injection ea_ with ea_ en_ ec_;subst ea_;subst ec_;clear en_)|((with_reducible refine gF 53 ?_);refine gX (some 27) Try.func53 (laws_heldCondS.calls bi.out (cC HR670_1.out) HC670_1.out) ?_;rintro w' ⟨nd,rfl⟩;have ac:0≤(a:Int):=dA;have ad:a<(b.length:Int):=dA;obtain⟨aZ,b1,b5,b8,b9,a0,a1,a2,ca,cb,hl672_0,hi672_0,hl672_1,hi672_1⟩:=at_T43 HR0.out a ac ad;obtain rfl:I=aZ:=(by injection a0);have HR672_0:=aM hi672_0;have HC672_0:=aM hl672_0;clear hi672_0 hl672_0;have HR672_1:=aM hi672_1;have HC672_1:=aM hl672_1;clear hi672_1 hl672_1;replace ac:=eq_true ac;replace ad:=eq_true ad;have ea_:=Option.some.inj (J.symm.trans a1);injection ea_ with ea_ en_ ec_;subst ea_;subst ec_;clear en_;have ea_:=Option.some.inj (L.symm.trans a2);injection ea_ with ea_ en_ ec_;subst ea_;subst ec_;clear en_;have aD:0≤(a:Int):=dA;have aE:a<(b.length:Int):=dA;obtain⟨bP,cE,cF,cG,cI,bQ,bR,bS,cJ,cL,hl673_0,hi673_0,hl673_1,hi673_1⟩:=at_T43 HR0.out a aD aE;obtain rfl:I=bP:=(by injection bQ);have HR673_0:=aM hi673_0;have HC673_0:=aM hl673_0;clear hi673_0 hl673_0;have HR673_1:=aM hi673_1;have HC673_1:=aM hl673_1;clear hi673_1 hl673_1;replace aD:=eq_true aD;replace aE:=eq_true aE;have ea_:=Option.some.inj (J.symm.trans bR);injection ea_ with ea_ en_ ec_;subst ea_;subst ec_;clear en_;have ea_:=Option.some.inj (L.symm.trans bS);injection ea_ with ea_ en_ ec_;subst ea_;subst ec_;clear en_))
        go_ret
        exact⟨by first|rfl|(simp;done)|(simp[*];done),by repeat(first|exact Drawn0.refl _|apply Drawn0.step)⟩
      ·rw[if_neg E]at H;obtain⟨bu,bv⟩:=eF E;obtain rfl:=Option.some.inj H;have t:0≤(a:Int):=dA;have u:a<(b.length:Int):=dA;obtain⟨I,bb,bd,be,bf,al,J,L,bg,bh,hl668_0,hi668_0,hl668_1,hi668_1⟩:=at_T43 HR0.out a t u;cases al;have HR668_0:=aM hi668_0;have HC668_0:=aM hl668_0;clear hi668_0 hl668_0;have HR668_1:=aM hi668_1;have HC668_1:=aM hl668_1;clear hi668_1 hl668_1;replace t:=eq_true t;replace u:=eq_true u
       go_wp2_with (first|((with_reducible refine gF 52 ?_);refine gX (some 18) Try.func52 (laws_heldIntS.calls aq.out (cC HR668_0.out) HC668_0.out) ?_;rintro w' ⟨nd,rfl⟩;have A:0≤(a:Int):=dA;have D:a<(b.length:Int):=dA;obtain⟨az,bI,bJ,bL,bM,aA,aB,aC,bN,bO,hl670_0,hi670_0,hl670_1,hi670_1⟩:=at_T43 HR0.out a A D;obtain rfl:I=az:=(by injection aA);have HR670_0:=aM hi670_0;have HC670_0:=aM hl670_0;clear hi670_0 hl670_0;have HR670_1:=aM hi670_1;have HC670_1:=aM hl670_1;clear hi670_1 hl670_1;replace A:=eq_true A;replace D:=eq_true D;have ea_:=Option.some.inj (J.symm.trans aB);injection ea_ with ea_ en_ ec_;subst ea_;subst ec_;clear en_;have ea_:=Option.some.inj (L.symm.trans aC);injection ea_ with ea_ en_ ec_;subst ea_;subst ec_;clear en_)|((with_reducible refine gF 53 ?_);refine gX (some 27) Try.func53 (laws_heldCondS.calls bi.out (cC HR670_1.out) HC670_1.out) ?_;rintro w' ⟨nd,rfl⟩;have ac:0≤(a:Int):=dA;have ad:a<(b.length:Int):=dA;obtain⟨aZ,b1,b5,b8,b9,a0,a1,a2,ca,cb,hl672_0,hi672_0,hl672_1,hi672_1⟩:=at_T43 HR0.out a ac ad;obtain rfl:I=aZ:=(by injection a0);have HR672_0:=aM hi672_0;have HC672_0:=aM hl672_0;clear hi672_0 hl672_0;have HR672_1:=aM hi672_1;have HC672_1:=aM hl672_1;clear hi672_1 hl672_1;replace ac:=eq_true ac;replace ad:=eq_true ad;have ea_:=Option.some.inj (J.symm.trans a1);injection ea_ with ea_ en_ ec_;subst ea_;subst ec_;clear en_;have ea_:=Option.some.inj (L.symm.trans a2);injection ea_ with ea_ en_ ec_;subst ea_;subst ec_;clear en_))
       go_ret
       exact⟨by first|rfl|(simp;done)|(simp[*];done),by repeat(first|exact Drawn0.refl _|apply Drawn0.step)⟩
   ·rw[if_neg o]at H;have aP:=decide_eq_false o;clear o;obtain rfl:=Option.some.inj H;go_wp2;go_ret
    exact⟨by first|rfl|(simp;done)|(simp[*];done),by repeat(first|exact Drawn0.refl _|apply Drawn0.step)⟩
def laws_heldPolicy.f (k:Nat) (ae:Int) (af:Int) (ag:Int) (v:List (S43)) (c:Int):Option (Int):=(laws_heldRuleS.f k v c).bind fun bj=>(if bj<0 then(some (-1))else(some bj))
set_option maxHeartbeats 8000000 in
set_option maxRecDepth 100000 in
theorem laws_heldPolicy.calls {k:Nat}{ae:Int}{af:Int}{ag:Int}{bk:Option Addr}{bl:Nat}{v:List (S43)}{c:Int}{r:Int}{w:World}(h:laws_heldPolicy.f k ae af ag v c=some r)(cc:Kd.C k43 w bk v.length v)(cd:v.length≤bl) :
 Calls Try.prog 8 #[.agg #[.int .i64 ae,.int .i64 af,.int .i64 ag,.slice bk v.length bl],.int .i64 c] w fun e w'=>e= .returned (.int .i64 r)∧Below w.heap.size w w':=by
 have hu24:=Try.underlying24;have HR0_3:=aM cc;have HC0_3:=aM cd;clear cc cd;have HB:=rW w
 unfold laws_heldPolicy.f at h;have H:=h
 clear h;replace H:=bE H;obtain⟨bj,ce,H⟩:=H;by_cases aL:bj<0
 ·rw[if_pos aL]at H;have a3:=decide_eq_true aL;clear aL;obtain rfl:=Option.some.inj H;go_enter Try.func8,Try.ntmps8
  go_wp2_with (first|((with_reducible refine gN 2 ?_);refine boxZ 2 #[.int .i64 ae,.int .i64 af,.int .i64 ag,.slice bk v.length bl] 24 ?_;intro cM hg bn hbox hb;have bT:=aM hbox;have GW674:=gS hg;have GE674:=gS hg;replace HB:=sB hb;clear hb hbox hg;obtain⟨cP,cQ,cR,cS,cT,cU,cV,cW⟩:=cz4 bT)|((with_reducible refine gF 23 ?_);refine gX (some 8) Try.func23 (laws_heldRuleS.calls ce.out (cH HR0_3) HC0_3.out) ?_;rintro w' ⟨nd,rfl⟩))
  go_ret;exact⟨rE,cB⟩
 ·rw[if_neg aL]at H;have a3:=decide_eq_false aL;clear aL;obtain rfl:=Option.some.inj H;go_enter Try.func8,Try.ntmps8
  go_wp2_with (first|((with_reducible refine gN 2 ?_);refine boxZ 2 #[.int .i64 ae,.int .i64 af,.int .i64 ag,.slice bk v.length bl] 24 ?_;intro cM hg cX hbox hb;have bT:=aM hbox;have GW674:=gS hg;have GE674:=gS hg;replace HB:=sB hb;clear hb hbox hg;obtain⟨ci,cj,ck,cl,cm,cn,co,cp⟩:=cz4 bT)|((with_reducible refine gF 23 ?_);refine gX (some 8) Try.func23 (laws_heldRuleS.calls ce.out (cH HR0_3) HC0_3.out) ?_;rintro w' ⟨nd,rfl⟩))
  go_ret;exact⟨rE,cB⟩
end Go.Proofs.Ytfhjjfibblcklaa.PFnExactReadPolicy
