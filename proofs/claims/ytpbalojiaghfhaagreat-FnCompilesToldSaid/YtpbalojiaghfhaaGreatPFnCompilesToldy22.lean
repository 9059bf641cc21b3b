import Derived.Test.YtpbalojiaghfhaaGreatPFnCompilesToldy0
import Derived.Test.YtpbalojiaghfhaaGreatPFnCompilesToldy13
import Derived.Test.YtpbalojiaghfhaaGreatPFnCompilesToldy14
import Derived.Test.YtpbalojiaghfhaaGreatPFnCompilesToldy21
namespace Go.Proofs.YtpbalojiaghfhaaGreat.PFnCompilesTold
open Go.RowKit Go.Proofs.YtpbalojiaghfhaaGreatW.PrintWords Go.Proofs.YtpbalojiaghfhaaGreatW.PrintLast Go.Proofs.YtpbalojiaghfhaaGreatW.PrintMore Go.Proofs.YtpbalojiaghfhaaGreatW.Z
open Kd
attribute [local go_sem] isS max2_int min2_int max_two min_two max_three min_three max_four min_four
set_option linter.unusedVariables false
set_option linter.unusedSimpArgs false
mutual
def spec_InsOk.j0:Nat→Bool→Int→Int→Int→Int→Option (Bool)
  | 0,_,_,_,_,_=>none
  | k+1,aH,i,j,q,s=>if aH=true then(some false)else((spec_l06Ask.f i).bind fun E=>(if E=true then(spec_InsOk.j1 k false i j q s)else(if q=0 then(spec_InsOk.j1 k (s !=0) i j q s)else(spec_InsOk.j1 k true i j q s))))
def spec_InsOk.j1:Nat→Bool→Int→Int→Int→Int→Option (Bool)
  | 0,_,_,_,_,_=>none
  | k+1,aI,i,j,q,s=>if aI=true then(some false)else(if i=1 then(some (decide (j<8)))else(if i=7 then(some (decide (j<400)))else(some true)))
end
def spec_InsOk.f (k:Nat) (b:Int) (g:Int) (c:Int) (d:Int):Option (Bool):=(spec_l01In.f b 1 8).bind fun G=>(if G=true then((spec_HalfOk.f g).bind fun I=>(if I=true then((spec_l01In.f c 0 15).bind fun J=>(if J=true then((spec_l01In.f d 0 15).bind fun L=>(spec_InsOk.j0 k (!L) b g c d))else(spec_InsOk.j0 k true b g c d)))else(spec_InsOk.j0 k true b g c d)))else(spec_InsOk.j0 k true b g c d))
set_option maxHeartbeats 8000000 in
set_option maxRecDepth 100000 in
theorem spec_InsOk.calls {k:Nat}{b:Int}{g:Int}{c:Int}{d:Int}{r:Bool}{w:World}(h:spec_InsOk.f k b g c d=some r) :
 Calls Tryz.prog 48 #[.agg #[.int .i64 b,.int .i64 g,.int .i64 c,.int .i64 d]] w fun e w'=>e= .returned (.bool r)∧Below w.heap.size w w':=by
 have hu71:=Tryz.underlying71;have HB:=rW w
 unfold spec_InsOk.f at h;have H:=h
 clear h;have HC2:=aM H;clear H;go_enter Tryz.func48,Tryz.ntmps48
 go_upto_region 1 with(first|((with_reducible refine gN 1 ?_);refine boxZ 1 #[.int .i64 b,.int .i64 g,.int .i64 c,.int .i64 d] 71 ?_;intro U hg bg hbox hb;have a:=aM hbox;have GW1050:=gS hg;have GE1050:=gS hg;replace HB:=sB hb;clear hb hbox hg))
 (try simp only[Act.put,List.setIfInBounds_toArray,List.set_cons_zero,List.set_cons_succ])
 go_cut [24] (fun aJ wc=> ∃ (kq:Nat) (y:Bool),aJ= .bool y∧Aside0 (spec_InsOk.j0 kq y b g c d=some r)∧Aside0 (kq≤k)∧Aside0 (wc.heap[U]?=some (.cells #[.int .i64 b,.int .i64 g,.int .i64 c,.int .i64 d] 71 (0,0)))∧Aside0 (Below w.heap.size w wc))
 case first=>
  have H:=HC2.out;clear HC2;replace H:=bE H;obtain⟨G,z,H⟩:=H;by_cases l:G=true
  ·subst l;replace H:=iT H;replace H:=bE H;obtain⟨I,M,H⟩:=H;by_cases m:I=true
   ·subst m;replace H:=iT H;replace H:=bE H;obtain⟨J,W,H⟩:=H;by_cases n:J=true
    ·subst n;replace H:=iT H;replace H:=bE H;obtain⟨L,aK,H⟩:=H;have H':=aM H;clear H;obtain⟨X,Y,aa,ab,ac,ad,ae,af⟩:=cz4 a
     go_wp2_with (first|((with_reducible refine gF 47 ?_);refine gX (some 5) Tryz.func47 (spec_l01In.calls z.out) ?_;rintro w' ⟨nd,rfl⟩)|(go_at_call 83;(with_reducible refine(spec_HalfOk.calls M.out).mono ?_);rintro e w' ⟨rfl,⟨nd,rfl⟩⟩)|(go_at_call 47;(with_reducible refine(spec_l01In.calls W.out).mono ?_);rintro e w' ⟨rfl,⟨nd,rfl⟩⟩)|(go_at_call 47;(with_reducible refine(spec_l01In.calls aK.out).mono ?_);rintro e w' ⟨rfl,⟨nd,rfl⟩⟩))
     go_meet
     case rel=>exact⟨_,(!L),rS,H',⟨oL⟩,⟨mK a⟩,⟨cB⟩⟩
    ·replace n:=Bool.eq_false_iff.mpr n;subst n;replace H:=iF H;have H':=aM H;clear H;obtain⟨ag,ah,ai,aj,ak,al,am,an⟩:=cz4 a
     go_wp2_with (first|((with_reducible refine gF 47 ?_);refine gX (some 5) Tryz.func47 (spec_l01In.calls z.out) ?_;rintro w' ⟨nd,rfl⟩)|(go_at_call 83;(with_reducible refine(spec_HalfOk.calls M.out).mono ?_);rintro e w' ⟨rfl,⟨nd,rfl⟩⟩)|(go_at_call 47;(with_reducible refine(spec_l01In.calls W.out).mono ?_);rintro e w' ⟨rfl,⟨nd,rfl⟩⟩))
     go_meet
     case rel=>exact⟨_,(true),rS,H',⟨oL⟩,⟨mK a⟩,⟨cB⟩⟩
   ·replace m:=Bool.eq_false_iff.mpr m;subst m;replace H:=iF H;have H':=aM H;clear H;obtain⟨ao,ap,aq,ar,au,av,aw,ax⟩:=cz4 a
    go_wp2_with (first|((with_reducible refine gF 47 ?_);refine gX (some 5) Tryz.func47 (spec_l01In.calls z.out) ?_;rintro w' ⟨nd,rfl⟩)|(go_at_call 83;(with_reducible refine(spec_HalfOk.calls M.out).mono ?_);rintro e w' ⟨rfl,⟨nd,rfl⟩⟩))
    go_meet
    case rel=>exact⟨_,(true),rS,H',⟨oL⟩,⟨mK a⟩,⟨cB⟩⟩
  ·replace l:=Bool.eq_false_iff.mpr l;subst l;replace H:=iF H;have H':=aM H;clear H;obtain⟨ay,az,aA,aB,aC,aD,aE,aF⟩:=cz4 a
   go_wp2_with (first|((with_reducible refine gF 47 ?_);refine gX (some 5) Tryz.func47 (spec_l01In.calls z.out) ?_;rintro w' ⟨nd,rfl⟩))
   go_meet
   case rel=>exact⟨_,(true),rS,H',⟨oL⟩,⟨mK a⟩,⟨cB⟩⟩
 case rest=>
  clear HC2;(try clear l);(try clear m);(try clear n);(try clear X Y aa ab);(try clear ag ah ai aj);(try clear ao ap aq ar);(try clear ay az aA aB);(try clear ac ad ae af);(try clear ak al am an);(try clear au av aw ax);(try clear aC aD aE aF);obtain⟨kq,y,rfl,HA,HJ1,a,HB⟩:=hcut
  cases kq with
  | zero=>exact absurd HA.out (by simp[spec_InsOk.j0])
  | succ kj1=>
   have H:=HA.out;clear HA;simp only[spec_InsOk.j0]at H;by_cases t:y=true
   ·subst t;replace H:=iT H;obtain rfl:=Option.some.inj H;go_wp2;go_ret;exact⟨rE,cB⟩
   ·replace t:=Bool.eq_false_iff.mpr t;subst t;replace H:=iF H;have HC16:=aM H;clear H
    go_upto_region 3 with(fail)
    go_cut [38] (fun aL wc=> ∃ (kq:Nat) (A:Bool),aL= .bool A∧Aside0 (spec_InsOk.j1 kq A b g c d=some r)∧Aside0 (kq≤kj1)∧Aside0 (wc.heap[U]?=some (.cells #[.int .i64 b,.int .i64 g,.int .i64 c,.int .i64 d] 71 (0,0)))∧Aside0 (Below w.heap.size w wc))
    case first=>
     have H:=HC16.out;clear HC16;replace H:=bE H;obtain⟨E,O,H⟩:=H;by_cases u:E=true
     ·subst u;replace H:=iT H;have H':=aM H;clear H;obtain⟨aN,aO,aP,aQ,aR,aS,aT,aU⟩:=cz4 a
      go_wp2_with (first|((with_reducible refine gF 88 ?_);refine gX (some 27) Tryz.func88 (spec_l06Ask.calls O.out) ?_;rintro w' ⟨nd,rfl⟩))
      go_meet
      case rel=>exact⟨_,(false),rS,H',⟨by have:=HJ1.out;first|omega|exact Nat.le_refl _⟩,⟨mK a⟩,⟨cB⟩⟩
     ·replace u:=Bool.eq_false_iff.mpr u;subst u;replace H:=iF H;by_cases o:c=0
      ·rw[if_pos o]at H;obtain⟨p,aG⟩:=eT o;clear o
       (first|rw[p]|(simp only[i64_w,i32_w];rw[p])|skip)
       have H':=aM H;clear H;obtain⟨aV,aW,aX,aY,aZ,a0,a1,a2⟩:=cz4 a
       go_wp2_with (first|((with_reducible refine gF 88 ?_);refine gX (some 27) Tryz.func88 (spec_l06Ask.calls O.out) ?_;rintro w' ⟨nd,rfl⟩))
       go_meet
       case rel=>exact⟨_,((d !=0)),rS,H',⟨by have:=HJ1.out;first|omega|exact Nat.le_refl _⟩,⟨mK a⟩,⟨cB⟩⟩
      ·rw[if_neg o]at H;obtain⟨p,aG⟩:=eF o
       (first|rw[p]|(simp only[i64_w,i32_w];rw[p])|skip)
       have H':=aM H;clear H;obtain⟨a3,a4,a5,a6,a7,a8,a9,ba⟩:=cz4 a
       go_wp2_with (first|((with_reducible refine gF 88 ?_);refine gX (some 27) Tryz.func88 (spec_l06Ask.calls O.out) ?_;rintro w' ⟨nd,rfl⟩))
       go_meet
       case rel=>exact⟨_,(true),rS,H',⟨by have:=HJ1.out;first|omega|exact Nat.le_refl _⟩,⟨mK a⟩,⟨cB⟩⟩
    case rest=>
     clear HC16;(try clear l);(try clear m);(try clear n);(try clear t);(try clear u);(try clear o);(try clear p);(try clear aG);(try clear X Y aa ab);(try clear ag ah ai aj);(try clear ao ap aq ar);(try clear ay az aA aB);(try clear aN aO aP aQ);(try clear aV aW aX aY);(try clear a3 a4 a5 a6);(try clear ac ad ae af);(try clear ak al am an);(try clear au av aw ax);(try clear aC aD aE aF);(try clear aR aS aT aU);(try clear aZ a0 a1 a2);(try clear a7 a8 a9 ba);obtain⟨kq,A,rfl,HA,HJ15,a,HB⟩:=hcut
     cases kq with
     | zero=>exact absurd HA.out (by simp[spec_InsOk.j1])
     | succ kj15=>
      have H:=HA.out;clear HA;simp only[spec_InsOk.j1]at H;by_cases D:A=true
      ·subst D;replace H:=iT H;obtain rfl:=Option.some.inj H;go_wp2;go_ret;exact⟨rE,cB⟩
      ·replace D:=Bool.eq_false_iff.mpr D;subst D;replace H:=iF H;by_cases v:b=1
       ·rw[if_pos v]at H;obtain⟨bb,bd⟩:=eT v;clear v;obtain rfl:=Option.some.inj H;obtain⟨bh,bi,bj,bk,bl,bm,bn,bo⟩:=cz4 a;go_wp2;go_ret;exact⟨rE,cB⟩
       ·rw[if_neg v]at H;obtain⟨bb,bd⟩:=eF v;by_cases x:b=7
        ·rw[if_pos x]at H;obtain⟨be,bf⟩:=eT x;clear x;obtain rfl:=Option.some.inj H;obtain⟨bp,bq,br,bs,bu,bv,bw,bx⟩:=cz4 a;go_wp2;go_ret;exact⟨rE,cB⟩
        ·rw[if_neg x]at H;obtain⟨be,bf⟩:=eF x;obtain rfl:=Option.some.inj H;obtain⟨bz,bA,bB,bC,bD,bF,bG,bH⟩:=cz4 a;go_wp2;go_ret;exact⟨rE,cB⟩
end Go.Proofs.YtpbalojiaghfhaaGreat.PFnCompilesTold
