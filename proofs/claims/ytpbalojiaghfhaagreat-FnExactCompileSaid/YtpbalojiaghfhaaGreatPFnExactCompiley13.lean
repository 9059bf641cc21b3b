import Derived.Test.YtpbalojiaghfhaaGreatPFnExactCompiley0
import Derived.Test.YtpbalojiaghfhaaGreatPFnExactCompiley12
namespace Go.Proofs.YtpbalojiaghfhaaGreat.PFnExactCompile
open Go.RowKit Go.Proofs.YtpbalojiaghfhaaGreatW.PrintWords Go.Proofs.YtpbalojiaghfhaaGreatW.PrintLast Go.Proofs.YtpbalojiaghfhaaGreatW.PrintMore Go.Proofs.YtpbalojiaghfhaaGreatW.Z
open Kd
attribute [local go_sem] isS max2_int min2_int max_two min_two max_three min_three max_four min_four
set_option linter.unusedVariables false
set_option linter.unusedSimpArgs false
theorem qh13x0 {P:Prop} (h:P:=by exact⟨(blk_cell c.out 0).trans rfl,(blk_cell c.out 1).trans rfl,(blk_cell c.out 2).trans rfl,(blk_cell c.out 3).trans rfl,(blk_cell c.out 4).trans rfl,(blk_cell c.out 5).trans rfl⟩):P:=h
def spec_ResultOf.f (a:Int) (d:Int):Option (Int):=(spec_l01In.f a 0 5).bind fun aT=>(if aT=true then((spec_l01In.f d 0 65535).bind fun aU=>(if aU=true then(some (wrap64 ((wrap64 (65536*a))+d)))else(some 0)))else(some 0))
set_option maxHeartbeats 8000000 in
set_option maxRecDepth 100000 in
theorem spec_ResultOf.calls (a:Int) (d:Int) (r:Int) (w:World) (h:spec_ResultOf.f a d=some r) :
 Calls Tryz.prog 46 #[.int .i64 a,.int .i64 d] w fun e w'=>e= .returned (.int .i64 r)∧Drawn0 w w':=by
 unfold spec_ResultOf.f at h;have H:=h
 clear h;replace H:=bE H;obtain⟨aT,aV,H⟩:=H;by_cases x:aT=true
 ·subst x;replace H:=iT H;replace H:=bE H;obtain⟨aU,aP,H⟩:=H;by_cases y:aU=true
  ·subst y;replace H:=iT H;obtain rfl:=Option.some.inj H;go_enter Tryz.func46,Tryz.ntmps46
   go_wp2_with (first|((with_reducible refine gF 47 ?_);refine goZ (some 6) Tryz.func47 #[.int .i64 a,.int .i64 0,.int .i64 5] ?_;(with_reducible refine(spec_l01In.calls a 0 5 true _ aV.out).mono ?_);rintro e w' ⟨rfl,⟨nd,rfl⟩⟩;refine⟨_,rfl,?_⟩)|(go_at_call 47;(with_reducible refine(spec_l01In.calls d 0 65535 true _ aP.out).mono ?_);rintro e w' ⟨rfl,⟨nd,rfl⟩⟩))
   go_ret
   exact⟨by first|rfl|(simp;done)|(simp[*];done),by repeat(first|exact Drawn0.refl _|apply Drawn0.step)⟩
  ·replace y:=Bool.eq_false_iff.mpr y;subst y;replace H:=iF H;obtain rfl:=Option.some.inj H;go_enter Tryz.func46,Tryz.ntmps46
   go_wp2_with (first|((with_reducible refine gF 47 ?_);refine goZ (some 6) Tryz.func47 #[.int .i64 a,.int .i64 0,.int .i64 5] ?_;(with_reducible refine(spec_l01In.calls a 0 5 true _ aV.out).mono ?_);rintro e w' ⟨rfl,⟨nd,rfl⟩⟩;refine⟨_,rfl,?_⟩)|(go_at_call 47;(with_reducible refine(spec_l01In.calls d 0 65535 false _ aP.out).mono ?_);rintro e w' ⟨rfl,⟨nd,rfl⟩⟩))
   go_ret
   exact⟨by first|rfl|(simp;done)|(simp[*];done),by repeat(first|exact Drawn0.refl _|apply Drawn0.step)⟩
 ·replace x:=Bool.eq_false_iff.mpr x;subst x;replace H:=iF H;obtain rfl:=Option.some.inj H;go_enter Tryz.func46,Tryz.ntmps46
  go_wp2_with (first|((with_reducible refine gF 47 ?_);refine goZ (some 6) Tryz.func47 #[.int .i64 a,.int .i64 0,.int .i64 5] ?_;(with_reducible refine(spec_l01In.calls a 0 5 false _ aV.out).mono ?_);rintro e w' ⟨rfl,⟨nd,rfl⟩⟩;refine⟨_,rfl,?_⟩))
  go_ret
  exact⟨by first|rfl|(simp;done)|(simp[*];done),by repeat(first|exact Drawn0.refl _|apply Drawn0.step)⟩
def spec_l09In.l0:Nat→List Int→Int→Int→Option (Bool)
  | 0,_,_,_=>none
  | k+1,D,be,aQ=>if aQ<(D.length:Int)then(if 0≤aQ then(if(rd D aQ)=be then(some true)else(spec_l09In.l0 k D be (wrap64 (aQ+1))))else(none))else(some false)
def spec_l09In.f (k:Nat) (s:List Int) (d:Int):Option (Bool):=spec_l09In.l0 k s d 0
set_option maxHeartbeats 8000000 in
set_option maxRecDepth 100000 in
theorem spec_l09In.calls (k:Nat) (bf:Option Addr) (bg:Nat) (s:List Int) (d:Int) (r:Bool) (w:World) (bh:Kd.C (Kd.int .i64) w bf s.length s) (bi:s.length≤bg) (h:spec_l09In.f k s d=some r) :
 Calls Tryz.prog 58 #[.slice bf s.length bg,.int .i64 d] w fun e w'=>e= .returned (.bool r)∧Drawn0 w w':=by
 have HR0:=aM bh;have HC0:=aM bi;clear bh bi;have H:(spec_l09In.l0 k s d 0)=some r:=h;clear h;have H':=aM H;clear H;go_enter Tryz.func58,Tryz.ntmps58;go_wp2
 go_loopg [5] k (fun kq bu w'=> ∃ (v:Int),bu= .int .i64 v∧Aside0 (spec_l09In.l0 kq s d v=some r)∧Aside0 (kq≤k)∧Drawn0 w w')
 case atStart=>exact⟨(0),rS,H',⟨Nat.le_refl _⟩,by repeat(first|exact Drawn0.refl _|apply Drawn0.step)⟩
 case round=>
  clear H';obtain⟨v,rfl,HA,HK1,⟨m1,rfl⟩⟩:=hrel
  cases gk with
  | zero=>exact absurd HA.out (by simp[spec_l09In.l0])
  | succ k1=>
   have H:=HA.out;clear HA;simp only[spec_l09In.l0]at H;by_cases i:v<(s.length:Int)
   ·rw[if_pos i]at H;have aW:=decide_eq_true i;clear i;replace H:=gD H;obtain⟨G,H⟩:=H;by_cases q:(rd s v)=d
    ·rw[if_pos q]at H;obtain⟨bj,bk⟩:=eT q;clear q;obtain rfl:=Option.some.inj H;have I:0≤(v:Int):=dA;have J:v<(s.length:Int):=dA;obtain⟨bv,aX,bw⟩:=at_int HR0.out v I J;cases aX;replace I:=eq_true I;replace J:=eq_true J;go_wp2;go_ret
     exact⟨by first|rfl|(simp;done)|(simp[*];done),by repeat(first|exact Drawn0.refl _|apply Drawn0.step)⟩
    ·rw[if_neg q]at H;obtain⟨bj,bk⟩:=eF q;have H':=aM H;clear H;have I:0≤(v:Int):=dA;have J:v<(s.length:Int):=dA;obtain⟨bv,aX,bw⟩:=at_int HR0.out v I J;cases aX;replace I:=eq_true I;replace J:=eq_true J;go_wp2;go_roundg k1
     case measure=>have:=HK1.out;omega
     case rel=>exact⟨(wrap64 (v+1)),rS,H',⟨by have:=HK1.out;omega⟩,by repeat(first|exact Drawn0.refl _|apply Drawn0.step)⟩
   ·rw[if_neg i]at H;have aW:=decide_eq_false i;clear i;obtain rfl:=Option.some.inj H;go_wp2;go_ret
    exact⟨by first|rfl|(simp;done)|(simp[*];done),by repeat(first|exact Drawn0.refl _|apply Drawn0.step)⟩
def spec_l11Word.f (a:Int) (d:Int):Option (ByteArray×Int×Int×Int×Int×ByteArray×ByteArray):=some ((⟨#[]⟩ :ByteArray),a,d,0,0,(⟨#[]⟩ :ByteArray),(⟨#[]⟩ :ByteArray))
set_option maxHeartbeats 8000000 in
set_option maxRecDepth 100000 in
theorem spec_l11Word.calls (a:Int) (d:Int) (r1:ByteArray) (r2:Int) (r3:Int) (r4:Int) (r5:Int) (r6:ByteArray) (r7:ByteArray) (w:World) (h:spec_l11Word.f a d=some (r1,r2,r3,r4,r5,r6,r7)) :
 Calls Tryz.prog 60 #[.int .i64 a,.int .i64 d] w fun e w'=>e= .returned (.agg #[.string r1,.int .i64 r2,.int .i64 r3,.int .i64 r4,.int .i64 r5,.string r6,.string r7])∧Below w.heap.size w w':=by
 have hu86:=Tryz.underlying86;have hu71:=Tryz.underlying71;have HB:=aM (Below.refl w.heap.size w);have H:(some ((⟨#[]⟩ :ByteArray),a,d,0,0,(⟨#[]⟩ :ByteArray),(⟨#[]⟩ :ByteArray)))=some (r1,r2,r3,r4,r5,r6,r7):=h;clear h;simp only[Option.some.injEq,Prod.mk.injEq]at H;obtain⟨rfl,rfl,rfl,rfl,rfl,rfl,rfl⟩:=H;go_enter Tryz.func60,Tryz.ntmps60
 go_wp2_with (first|((with_reducible refine gN 4 ?_);refine boxZ 4 #[.string (⟨#[]⟩ :ByteArray),.int .i64 0,.int .i64 0,.int .i64 0,.int .i64 0,.string (⟨#[]⟩ :ByteArray),.string (⟨#[]⟩ :ByteArray)] 86 ?_;intro bx hg bZ hbox hb;have bl:=aM (hbox);have GW632:=gS hg;have GE632:=gS hg;replace HB:=sB hb;clear hb hbox hg;obtain⟨b0,b1,b5,b8,b9,ca,cb,cc,cd,ce,cf,cg,ch,ci⟩:=cz7 bl))
 refine bodyPost_ret (results_cell_row rfl _ _ bx 86 #[.string (⟨#[]⟩ :ByteArray),.int .i64 a,.int .i64 d,.int .i64 0,.int .i64 0,.string (⟨#[]⟩ :ByteArray),.string (⟨#[]⟩ :ByteArray)] (0,0) _ rfl (kS bl _) Tryz.underlying86 rfl (by kernel_rfl)) rfl ?_
 exact⟨rE,cB⟩
def spec_l01Figure.f (a:Int):Option (Int):=if a<10 then(some ((wrap64 (48+a)) % 256))else(some ((wrap64 ((wrap64 (97+a)) - 10)) % 256))
set_option maxHeartbeats 8000000 in
set_option maxRecDepth 100000 in
theorem spec_l01Figure.calls (a:Int) (r:Int) (w:World) (h:spec_l01Figure.f a=some r) :
 Calls Tryz.prog 116 #[.int .i64 a] w fun e w'=>e= .returned (.int .u8 r)∧Drawn0 w w':=by
 have H:(if a<10 then(some ((wrap64 (48+a)) % 256))else(some ((wrap64 ((wrap64 (97+a)) - 10)) % 256)))=some r:=h;clear h;by_cases t:a<10
 ·rw[if_pos t]at H;have aR:=decide_eq_true t;clear t;obtain rfl:=Option.some.inj H;go_enter Tryz.func116,Tryz.ntmps116;go_wp2;go_ret
  exact⟨by first|rfl|(simp;done)|(simp[*];done),by repeat(first|exact Drawn0.refl _|apply Drawn0.step)⟩
 ·rw[if_neg t]at H;have aR:=decide_eq_false t;clear t;obtain rfl:=Option.some.inj H;go_enter Tryz.func116,Tryz.ntmps116;go_wp2;go_ret
  exact⟨by first|rfl|(simp;done)|(simp[*];done),by repeat(first|exact Drawn0.refl _|apply Drawn0.step)⟩
def spec_Decimal.l0:Nat→Int→Bool→ByteArray→Option (ByteArray)
  | 0,_,_,_=>none
  | k+1,D,aY,L=>if D=0 then(if aY=true then(if 1+L.size≤9223372036854775807 then(some ((⟨#[45]⟩ :ByteArray) ++ L))else(none))else(some L))else(if(Int.tmod D 10)<0 then((spec_l01Figure.f (wrap64 (-(Int.tmod D 10)))).bind fun O=>((some (([O] :List Int):List Int)).bind fun aG=>(if(strOfNums aG).size+L.size≤9223372036854775807 then(spec_Decimal.l0 k (wrap64 (Int.tdiv D 10)) aY ((strOfNums aG) ++ L))else(none))))else((spec_l01Figure.f (Int.tmod D 10)).bind fun U=>((some (([U] :List Int):List Int)).bind fun aH=>(if(strOfNums aH).size+L.size≤9223372036854775807 then(spec_Decimal.l0 k (wrap64 (Int.tdiv D 10)) aY ((strOfNums aH) ++ L))else(none)))))
def spec_Decimal.f (k:Nat) (a:Int):Option (ByteArray):=if a=0 then(some (⟨#[48]⟩ :ByteArray))else(spec_Decimal.l0 k a (decide (a<0)) (⟨#[]⟩ :ByteArray))
set_option maxHeartbeats 8000000 in
set_option maxRecDepth 100000 in
theorem spec_Decimal.calls (k:Nat) (a:Int) (r:ByteArray) (w:World) (h:spec_Decimal.f k a=some r) :
 Calls Tryz.prog 96 #[.int .i64 a] w fun e w'=>e= .returned (.string r)∧Below w.heap.size w w':=by
 have HB:=aM (Below.refl w.heap.size w);have H:(if a=0 then(some (⟨#[48]⟩ :ByteArray))else(spec_Decimal.l0 k a (decide (a<0)) (⟨#[]⟩ :ByteArray)))=some r:=h;clear h;by_cases t:a=0
 ·rw[if_pos t]at H;obtain⟨aR,bm⟩:=eT t;clear t;obtain rfl:=Option.some.inj H;go_enter Tryz.func96,Tryz.ntmps96;go_wp2;go_ret;exact⟨rE,cB⟩
 ·rw[if_neg t]at H;obtain⟨aR,bm⟩:=eF t;have H':=aM H;clear H;go_enter Tryz.func96,Tryz.ntmps96;go_wp2
  go_loopg [0,4] k (fun kq bz bA w'=> ∃ (z:Int) (A:ByteArray),bz= .int .i64 z∧bA= .string A∧Aside0 (spec_Decimal.l0 kq z (decide (a<0)) A=some r)∧Aside0 (kq≤k)∧Aside0 (Below w.heap.size w w'))
  case atStart=>exact⟨(a),((⟨#[]⟩ :ByteArray)),rS,rS,H',⟨Nat.le_refl _⟩,⟨cB⟩⟩
  case round=>
   clear H';(try clear t);(try clear aR);(try clear bm);obtain⟨z,A,rfl,rfl,HA,HK1,HB⟩:=hrel
   cases gk with
   | zero=>exact absurd HA.out (by simp[spec_Decimal.l0])
   | succ k1=>
    have H:=HA.out;clear HA;simp only[spec_Decimal.l0]at H;by_cases i:z=0
    ·rw[if_pos i]at H;obtain⟨aW,bB⟩:=eT i;clear i;by_cases x:(decide (a<0))=true
     ·rw[if_pos x]at H;have G:(decide (a<0))=true:=x;(try have bC:(0≤a)=False:=eq_false (by have h_:=of_decide_eq_true G;omega));(try have bD:(a<0)=True:=eq_true (of_decide_eq_true G));clear x;replace H:=gC H;obtain⟨q,H⟩:=H;have bj:=eq_true q;have bk:decide (1+A.size≤9223372036854775807)=true:=decide_eq_true q
      try have cj:(9223372036854775807<1+A.size)=False:=eq_false (Nat.not_lt.2 q)
      obtain rfl:=Option.some.inj H;go_wp2;(try any_goals (exfalso;have h_:=of_decide_eq_true G;omega));go_ret;exact⟨rE,cB⟩
     ·rw[if_neg x]at H
      have G:(decide (a<0))=false:=by simpa using x
      (try have bC:(0≤a)=True:=eq_true (by have h_:=of_decide_eq_false G;omega));(try have bD:(a<0)=False:=eq_false (of_decide_eq_false G))
      clear x;obtain rfl:=Option.some.inj H;go_wp2;(try any_goals (exfalso;have h_:=of_decide_eq_false G;omega));go_ret;exact⟨rE,cB⟩
    ·rw[if_neg i]at H;obtain⟨aW,bB⟩:=eF i;by_cases y:(Int.tmod z 10)<0
     ·rw[if_pos y]at H;have bF:=decide_eq_true y;clear y;replace H:=bE H;obtain⟨O,bG,H⟩:=H;replace H:=nE H;obtain⟨aG,bn,H⟩:=H;replace H:=gC H;obtain⟨aZ,H⟩:=H;have ck:=eq_true aZ;have cl:decide ((strOfNums aG).size+A.size≤9223372036854775807)=true:=decide_eq_true aZ
      try have cm:(9223372036854775807<(strOfNums aG).size+A.size)=False:=eq_false (Nat.not_lt.2 aZ)
      have H':=aM H;clear H
      go_wp2_with (first|((with_reducible refine gF 116 ?_);refine goZ (some 19) Tryz.func116 #[.int .i64 (wrap64 (-(Int.tmod z 10)))] ?_;(with_reducible refine(spec_l01Figure.calls (wrap64 (-(Int.tmod z 10))) O _ bG.out).mono ?_);rintro e w' ⟨rfl,⟨nd,rfl⟩⟩;refine⟨_,rfl,?_⟩)|((with_reducible refine gN 20 ?_);refine R_lit (Kd.int .u8) _ 5 ?hg (N:=20) ?hd (xs:=([O] :List Int)) (inner:=[.int .u8 O]) (ok:=fun _=>True) (okp:=fun _=>True) ?hr ?hp (fun _ hk=>hk) trivial (Below.refl _ _) (Nat.le_refl _) (by simp) ?_;(case hd=>rfl);(case hg=>rfl);(case hr=>exact rG);(case hp=>exact(Reps.one (show Kd.M (Kd.int .u8) _ _ _ O [.int .u8 O]from rfl) (Reps.none _ _)));intro cn bo aK hb hg_ hnew_;clear hg_ hnew_;(first|rw[← bn.out]at aK|(simp only[Int.reduceToNat]at aK;rw[← bn.out]at aK));have bH:=aM (R_lower aK (below_size cB));replace HB:=sB hb;clear hb aK;have hcv11:=own_string (P:=Tryz.prog) Tryz.underlying22 Tryz.underlying5 Tryz.underlying9 (own_of_R bH.out)))
      go_roundg k1
      case measure=>have:=HK1.out;omega
      case rel=>exact⟨(wrap64 (Int.tdiv z 10)),((strOfNums aG) ++ A),rS,rS,H',⟨by have:=HK1.out;omega⟩,⟨cB⟩⟩
     ·rw[if_neg y]at H;have bF:=decide_eq_false y;clear y;replace H:=bE H;obtain⟨U,a0,H⟩:=H;replace H:=nE H;obtain⟨aH,bp,H⟩:=H;replace H:=gC H;obtain⟨a1,H⟩:=H;have co:=eq_true a1;have cp:decide ((strOfNums aH).size+A.size≤9223372036854775807)=true:=decide_eq_true a1
      try have cq:(9223372036854775807<(strOfNums aH).size+A.size)=False:=eq_false (Nat.not_lt.2 a1)
      have H':=aM H;clear H
      go_wp2_with (first|((with_reducible refine gF 116 ?_);refine goZ (some 19) Tryz.func116 #[.int .i64 (Int.tmod z 10)] ?_;(with_reducible refine(spec_l01Figure.calls (Int.tmod z 10) U _ a0.out).mono ?_);rintro e w' ⟨rfl,⟨nd,rfl⟩⟩;refine⟨_,rfl,?_⟩)|((with_reducible refine gN 20 ?_);refine R_lit (Kd.int .u8) _ 5 ?hg (N:=20) ?hd (xs:=([U] :List Int)) (inner:=[.int .u8 U]) (ok:=fun _=>True) (okp:=fun _=>True) ?hr ?hp (fun _ hk=>hk) trivial (Below.refl _ _) (Nat.le_refl _) (by simp) ?_;(case hd=>rfl);(case hg=>rfl);(case hr=>exact rG);(case hp=>exact(Reps.one (show Kd.M (Kd.int .u8) _ _ _ U [.int .u8 U]from rfl) (Reps.none _ _)));intro cr bq aL hb hg_ hnew_;clear hg_ hnew_;(first|rw[← bp.out]at aL|(simp only[Int.reduceToNat]at aL;rw[← bp.out]at aL));have bI:=aM (R_lower aL (below_size cB));replace HB:=sB hb;clear hb aL;have hcv16:=own_string (P:=Tryz.prog) Tryz.underlying22 Tryz.underlying5 Tryz.underlying9 (own_of_R bI.out)))
      go_roundg k1
      case measure=>have:=HK1.out;omega
      case rel=>exact⟨(wrap64 (Int.tdiv z 10)),((strOfNums aH) ++ A),rS,rS,H',⟨by have:=HK1.out;omega⟩,⟨cB⟩⟩
def spec_HalfOk.f (a:Int):Option (Bool):=(spec_l01In.f a 0 4294967295).bind fun a2=>(some a2)
set_option maxHeartbeats 8000000 in
set_option maxRecDepth 100000 in
theorem spec_HalfOk.calls (a:Int) (r:Bool) (w:World) (h:spec_HalfOk.f a=some r) :
 Calls Tryz.prog 83 #[.int .i64 a] w fun e w'=>e= .returned (.bool r)∧Drawn0 w w':=by
 unfold spec_HalfOk.f at h;have H:=h
 clear h;replace H:=bE H;obtain⟨a2,E,H⟩:=H;obtain rfl:=Option.some.inj H;go_enter Tryz.func83,Tryz.ntmps83
 go_wp2_with (first|((with_reducible refine gF 47 ?_);refine goZ (some 4) Tryz.func47 #[.int .i64 a,.int .i64 0,.int .i64 4294967295] ?_;(with_reducible refine(spec_l01In.calls a 0 4294967295 a2 _ E.out).mono ?_);rintro e w' ⟨rfl,⟨nd,rfl⟩⟩;refine⟨_,rfl,?_⟩))
 go_ret
 exact⟨by first|rfl|(simp;done)|(simp[*];done),by repeat(first|exact Drawn0.refl _|apply Drawn0.step)⟩
def spec_WideOk.f (b:Int) (g:Int):Option (Bool):=(spec_HalfOk.f b).bind fun a3=>(if a3=true then((spec_HalfOk.f g).bind fun a4=>(some a4))else(some false))
set_option maxHeartbeats 8000000 in
set_option maxRecDepth 100000 in
theorem spec_WideOk.calls (b:Int) (g:Int) (r:Bool) (w:World) (h:spec_WideOk.f b g=some r) :
 Calls Tryz.prog 89 #[.agg #[.int .i64 b,.int .i64 g]] w fun e w'=>e= .returned (.bool r)∧Below w.heap.size w w':=by
 have hu105:=Tryz.underlying105;have HB:=aM (Below.refl w.heap.size w)
 unfold spec_WideOk.f at h;have H:=h
 clear h;replace H:=bE H;obtain⟨a3,E,H⟩:=H;by_cases i:a3=true
 ·subst i;replace H:=iT H;replace H:=bE H;obtain⟨a4,W,H⟩:=H;obtain rfl:=Option.some.inj H;go_enter Tryz.func89,Tryz.ntmps89
  go_wp2_with (first|((with_reducible refine gN 1 ?_);refine boxZ 1 #[.int .i64 b,.int .i64 g] 105 ?_;intro bJ hg bL hbox hb;have a5:=aM (hbox);have GW642:=gS hg;have GE642:=gS hg;replace HB:=sB hb;clear hb hbox hg;obtain⟨bM,bN,bO,bP⟩:=cz2 a5)|((with_reducible refine gF 83 ?_);refine goZ (some 5) Tryz.func83 #[.int .i64 b] ?_;(with_reducible refine(spec_HalfOk.calls b true _ E.out).mono ?_);rintro e w' ⟨rfl,⟨nd,rfl⟩⟩;refine⟨_,rfl,?_⟩)|(go_at_call 83;(with_reducible refine(spec_HalfOk.calls g a4 _ W.out).mono ?_);rintro e w' ⟨rfl,⟨nd,rfl⟩⟩))
  go_ret;exact⟨rE,cB⟩
 ·replace i:=Bool.eq_false_iff.mpr i;subst i;replace H:=iF H;obtain rfl:=Option.some.inj H;go_enter Tryz.func89,Tryz.ntmps89
  go_wp2_with (first|((with_reducible refine gN 1 ?_);refine boxZ 1 #[.int .i64 b,.int .i64 g] 105 ?_;intro bJ hg bQ hbox hb;have a5:=aM (hbox);have GW642:=gS hg;have GE642:=gS hg;replace HB:=sB hb;clear hb hbox hg;obtain⟨cs,ct,cu,cv⟩:=cz2 a5)|((with_reducible refine gF 83 ?_);refine goZ (some 5) Tryz.func83 #[.int .i64 b] ?_;(with_reducible refine(spec_HalfOk.calls b false _ E.out).mono ?_);rintro e w' ⟨rfl,⟨nd,rfl⟩⟩;refine⟨_,rfl,?_⟩))
  go_ret;exact⟨rE,cB⟩
def spec_CondOk.f (b:Int) (g:Int) (j:Int) (p:Int) (m:Int) (o:Int):Option (Bool):=(spec_l01In.f b 0 2).bind fun a6=>(if a6=true then((spec_WideOk.f g j).bind fun a7=>(if a7=true then((spec_WideOk.f m o).bind fun a8=>(if a8=true then((spec_l01In.f p 1 6).bind fun a9=>(some a9))else(some false)))else(some false)))else(some false))
set_option maxHeartbeats 8000000 in
set_option maxRecDepth 100000 in
theorem spec_CondOk.calls (b:Int) (g:Int) (j:Int) (p:Int) (m:Int) (o:Int) (r:Bool) (w:World) (h:spec_CondOk.f b g j p m o=some r) :
 Calls Tryz.prog 110 #[.agg #[.int .i64 b,.int .i64 g,.int .i64 j,.int .i64 p,.int .i64 m,.int .i64 o]] w fun e w'=>e= .returned (.bool r)∧Below w.heap.size w w':=by
 have hu118:=Tryz.underlying118;have hu105:=Tryz.underlying105;have HB:=aM (Below.refl w.heap.size w)
 unfold spec_CondOk.f at h;have H:=h
 clear h;replace H:=bE H;obtain⟨a6,E,H⟩:=H;by_cases i:a6=true
 ·subst i;replace H:=iT H;replace H:=bE H;obtain⟨a7,W,H⟩:=H;by_cases q:a7=true
  ·subst q;replace H:=iT H;replace H:=bE H;obtain⟨a8,br,H⟩:=H;by_cases aS:a8=true
   ·subst aS;replace H:=iT H;replace H:=bE H;obtain⟨a9,bR,H⟩:=H;obtain rfl:=Option.some.inj H;go_enter Tryz.func110,Tryz.ntmps110
    go_wp2_with (first|((with_reducible refine gN 1 ?_);refine boxZ 1 #[.int .i64 b,.int .i64 g,.int .i64 j,.int .i64 p,.int .i64 m,.int .i64 o] 118 ?_;intro ba hg bo hbox hb;have l:=aM (hbox);have GW645:=gS hg;have GE645:=gS hg;replace HB:=sB hb;clear hb hbox hg;obtain⟨cw,cx,cy,cz,cA,cD,cE,cF,cG,cH,cI,cJ⟩:=cz6 l)|((with_reducible refine gF 47 ?_);refine goZ (some 5) Tryz.func47 #[.int .i64 b,.int .i64 0,.int .i64 2] ?_;(with_reducible refine(spec_l01In.calls b 0 2 true _ E.out).mono ?_);rintro e w' ⟨rfl,⟨nd,rfl⟩⟩;refine⟨_,rfl,?_⟩)|(go_at_call 89;(with_reducible refine(spec_WideOk.calls g j true _ W.out).mono ?_);rintro e cL ⟨rfl,hb⟩;replace l:=kB l hb;replace HB:=sB hb;(try clear hb);obtain⟨cM,cN,cO,cP,cQ,cR,cS,cT,cU,cV,cW,cX⟩:=cz6 l)|(go_at_call 89;(with_reducible refine(spec_WideOk.calls m o true _ br.out).mono ?_);rintro e cY ⟨rfl,hb⟩;replace l:=kB l hb;replace HB:=sB hb;(try clear hb);obtain⟨cZ,c0,c1,c2,c3,c4,c5,c6,c7,c8,da,db⟩:=cz6 l)|(go_at_call 47;(with_reducible refine(spec_l01In.calls p 1 6 a9 _ bR.out).mono ?_);rintro e w' ⟨rfl,⟨nd,rfl⟩⟩))
    go_ret;exact⟨rE,cB⟩
   ·replace aS:=Bool.eq_false_iff.mpr aS;subst aS;replace H:=iF H;obtain rfl:=Option.some.inj H;go_enter Tryz.func110,Tryz.ntmps110
    go_wp2_with (first|((with_reducible refine gN 1 ?_);refine boxZ 1 #[.int .i64 b,.int .i64 g,.int .i64 j,.int .i64 p,.int .i64 m,.int .i64 o] 118 ?_;intro ba hg bS hbox hb;have l:=aM (hbox);have GW645:=gS hg;have GE645:=gS hg;replace HB:=sB hb;clear hb hbox hg;obtain⟨dc,dd,de,df,dg,dh,di,dj,dk,dl,dm,dn⟩:=cz6 l)|((with_reducible refine gF 47 ?_);refine goZ (some 5) Tryz.func47 #[.int .i64 b,.int .i64 0,.int .i64 2] ?_;(with_reducible refine(spec_l01In.calls b 0 2 true _ E.out).mono ?_);rintro e w' ⟨rfl,⟨nd,rfl⟩⟩;refine⟨_,rfl,?_⟩)|(go_at_call 89;(with_reducible refine(spec_WideOk.calls g j true _ W.out).mono ?_);rintro e bT ⟨rfl,hb⟩;replace l:=kB l hb;replace HB:=sB hb;(try clear hb);obtain⟨dp,dq,dr,dt,du,dv,dw,dx,dy,dz,dB,dC⟩:=cz6 l)|(go_at_call 89;(with_reducible refine(spec_WideOk.calls m o false _ br.out).mono ?_);rintro e dD ⟨rfl,hb⟩;replace l:=kB l hb;replace HB:=sB hb;(try clear hb)))
    go_ret;exact⟨rE,cB⟩
  ·replace q:=Bool.eq_false_iff.mpr q;subst q;replace H:=iF H;obtain rfl:=Option.some.inj H;go_enter Tryz.func110,Tryz.ntmps110
   go_wp2_with (first|((with_reducible refine gN 1 ?_);refine boxZ 1 #[.int .i64 b,.int .i64 g,.int .i64 j,.int .i64 p,.int .i64 m,.int .i64 o] 118 ?_;intro ba hg dE hbox hb;have l:=aM (hbox);have GW645:=gS hg;have GE645:=gS hg;replace HB:=sB hb;clear hb hbox hg;obtain⟨dF,dG,dH,dI,dJ,dK,dL,dM,dN,dO,dP,dQ⟩:=cz6 l)|((with_reducible refine gF 47 ?_);refine goZ (some 5) Tryz.func47 #[.int .i64 b,.int .i64 0,.int .i64 2] ?_;(with_reducible refine(spec_l01In.calls b 0 2 true _ E.out).mono ?_);rintro e w' ⟨rfl,⟨nd,rfl⟩⟩;refine⟨_,rfl,?_⟩)|(go_at_call 89;(with_reducible refine(spec_WideOk.calls g j false _ W.out).mono ?_);rintro e dR ⟨rfl,hb⟩;replace l:=kB l hb;replace HB:=sB hb;(try clear hb)))
   go_ret;exact⟨rE,cB⟩
 ·replace i:=Bool.eq_false_iff.mpr i;subst i;replace H:=iF H;obtain rfl:=Option.some.inj H;go_enter Tryz.func110,Tryz.ntmps110
  go_wp2_with (first|((with_reducible refine gN 1 ?_);refine boxZ 1 #[.int .i64 b,.int .i64 g,.int .i64 j,.int .i64 p,.int .i64 m,.int .i64 o] 118 ?_;intro ba hg dS hbox hb;have l:=aM (hbox);have GW645:=gS hg;have GE645:=gS hg;replace HB:=sB hb;clear hb hbox hg;obtain⟨dT,dU,dV,dW,dX,dY,dZ,d0,d1,d2,d3,d4⟩:=cz6 l)|((with_reducible refine gF 47 ?_);refine goZ (some 5) Tryz.func47 #[.int .i64 b,.int .i64 0,.int .i64 2] ?_;(with_reducible refine(spec_l01In.calls b 0 2 false _ E.out).mono ?_);rintro e w' ⟨rfl,⟨nd,rfl⟩⟩;refine⟨_,rfl,?_⟩))
  go_ret;exact⟨rE,cB⟩
def spec_l11Asks.f (a:Int) (d:Int) (aI:ByteArray) (aJ:ByteArray):Option (ByteArray×Int×Int×Int×Int×ByteArray×ByteArray):=some ((⟨#[]⟩ :ByteArray),a,d,0,0,aI,aJ)
set_option maxHeartbeats 8000000 in
set_option maxRecDepth 100000 in
theorem spec_l11Asks.calls (a:Int) (d:Int) (aI:ByteArray) (aJ:ByteArray) (r1:ByteArray) (r2:Int) (r3:Int) (r4:Int) (r5:Int) (r6:ByteArray) (r7:ByteArray) (w:World) (h:spec_l11Asks.f a d aI aJ=some (r1,r2,r3,r4,r5,r6,r7)) :
 Calls Tryz.prog 62 #[.int .i64 a,.int .i64 d,.string aI,.string aJ] w fun e w'=>e= .returned (.agg #[.string r1,.int .i64 r2,.int .i64 r3,.int .i64 r4,.int .i64 r5,.string r6,.string r7])∧Below w.heap.size w w':=by
 have hu86:=Tryz.underlying86;have hu71:=Tryz.underlying71;have HB:=aM (Below.refl w.heap.size w);have H:(some ((⟨#[]⟩ :ByteArray),a,d,0,0,aI,aJ))=some (r1,r2,r3,r4,r5,r6,r7):=h;clear h;simp only[Option.some.injEq,Prod.mk.injEq]at H;obtain⟨rfl,rfl,rfl,rfl,rfl,rfl,rfl⟩:=H;go_enter Tryz.func62,Tryz.ntmps62
 go_wp2_with (first|((with_reducible refine gN 8 ?_);refine boxZ 8 #[.string (⟨#[]⟩ :ByteArray),.int .i64 0,.int .i64 0,.int .i64 0,.int .i64 0,.string (⟨#[]⟩ :ByteArray),.string (⟨#[]⟩ :ByteArray)] 86 ?_;intro bU hg bL hbox hb;have bs:=aM (hbox);have GW650:=gS hg;have GE650:=gS hg;replace HB:=sB hb;clear hb hbox hg;obtain⟨bM,bN,d5,d6,d7,d8,d9,bO,bP,ea,eb,ec,ed,ee⟩:=cz7 bs))
 refine bodyPost_ret (results_cell_row rfl _ _ bU 86 #[.string (⟨#[]⟩ :ByteArray),.int .i64 a,.int .i64 d,.int .i64 0,.int .i64 0,.string aI,.string aJ] (0,0) _ rfl (kS bs _) Tryz.underlying86 rfl (by kernel_rfl)) rfl ?_
 exact⟨rE,cB⟩
def spec_l12Half.f (b:Int) (g:Int) (j:Int) (p:Int) (m:Int) (o:Int) (d:Bool):Option ((List (S86))):=if d=true then((spec_l11Word.f 1 (wrap64 (3+(wrap64 (2*b))))).bind fun X=>((spec_l11Word.f 2 g).bind fun Y=>(some (([(⟨X.1,(⟨X.2.1,X.2.2.1,X.2.2.2.1,X.2.2.2.2.1⟩ :S71),X.2.2.2.2.2.1,X.2.2.2.2.2.2⟩ :S86),(⟨Y.1,(⟨Y.2.1,Y.2.2.1,Y.2.2.2.1,Y.2.2.2.2.1⟩ :S71),Y.2.2.2.2.2.1,Y.2.2.2.2.2.2⟩ :S86)] :List (S86))))))else((spec_l11Word.f 1 (wrap64 (2+(wrap64 (2*b))))).bind fun aa=>((spec_l11Word.f 2 j).bind fun ab=>(some (([(⟨aa.1,(⟨aa.2.1,aa.2.2.1,aa.2.2.2.1,aa.2.2.2.2.1⟩ :S71),aa.2.2.2.2.2.1,aa.2.2.2.2.2.2⟩ :S86),(⟨ab.1,(⟨ab.2.1,ab.2.2.1,ab.2.2.2.1,ab.2.2.2.2.1⟩ :S71),ab.2.2.2.2.2.1,ab.2.2.2.2.2.2⟩ :S86)] :List (S86))))))
def spec_l12Half.T2:Bool×List (List Nat×List Nat):=(true,[([],[]),([0],[0]),([1],[1]),([2],[2]),([3],[3]),([],[]),([5],[5]),([6],[6]),([7,4],[7]),([4,8],[4,8]),([9,8,0,1,2,3,4,5,6,7,8,9],[9])])
def spec_l12Half.B2:List Nat:=[0,1,3,7,15,0,32,96,255,511,1023]
theorem spec_l12Half.tab2:rtab .any (opsOf Tryz.f140 2)=spec_l12Half.T2:=by kernel_rfl
theorem spec_l12Half.bits2:waitsOk spec_l12Half.T2.2 spec_l12Half.B2=true:=by kernel_rfl
def spec_l12Half.T3:Bool×List (List Nat×List Nat):=(true,[([],[]),([0],[0]),([1],[1]),([2],[2]),([3],[3]),([],[]),([5],[5]),([6],[6]),([7,4],[7]),([4,8],[4,8]),([9,8,0,1,2,3,4,5,6,7,8,9],[9])])
def spec_l12Half.B3:List Nat:=[0,1,3,7,15,0,32,96,255,511,1023]
theorem spec_l12Half.tab3:rtab .any (opsOf Tryz.f140 3)=spec_l12Half.T3:=by kernel_rfl
theorem spec_l12Half.bits3:waitsOk spec_l12Half.T3.2 spec_l12Half.B3=true:=by kernel_rfl
theorem q13x0 {P:Prop} (h:P:=by
 rintro w' ⟨s0,s1,s2,s3,s4,s5⟩
 go_simp
 with_reducible rfl):P:=h
set_option maxHeartbeats 8000000 in
set_option maxRecDepth 100000 in
theorem spec_l12Half.calls (b:Int) (g:Int) (j:Int) (p:Int) (m:Int) (o:Int) (d:Bool) (r:List (S86)) (w:World) (h:spec_l12Half.f b g j p m o d=some r) :
 Calls Tryz.prog 140 #[.agg #[.int .i64 b,.int .i64 g,.int .i64 j,.int .i64 p,.int .i64 m,.int .i64 o],.bool d] w fun e w'=> ∃ v0_:Value,e= .returned (v0_)∧Kd.R k86 86 w' w.heap.size (fun _=>True) v0_ r∧Below w.heap.size w w':=by
 have hu118:=Tryz.underlying118;have HB:=aM (Below.refl w.heap.size w)
 unfold spec_l12Half.f at h;have H:=h
 clear h;by_cases i:d=true
 ·subst i;replace H:=iT H;replace H:=bE H;obtain⟨⟨ac,ad,ae,af,ag,ah,ai⟩,W,H⟩:=H;(try dsimp only at H);replace H:=bE H;obtain⟨⟨aj,ak,al,am,an,ao,ap⟩,aP,H⟩:=H;(try dsimp only at H);obtain⟨ef,bb⟩ : ∃ y_:List (S86),Aside0 (y_=(([(⟨ac,(⟨ad,ae,af,ag⟩ :S71),ah,ai⟩ :S86),(⟨aj,(⟨ak,al,am,an⟩ :S71),ao,ap⟩ :S86)] :List (S86)))):=⟨_,⟨rfl⟩⟩;rw[← bb.out]at H;obtain rfl:=Option.some.inj H;go_enter Tryz.func140,Tryz.ntmps140
  try go_wp2_with (first|((with_reducible refine gN 2 ?_);refine boxZ 2 #[.int .i64 b,.int .i64 g,.int .i64 j,.int .i64 p,.int .i64 m,.int .i64 o] 118 ?_;intro u hg bV hbox hb;have c:=aM (hbox);have GW651:=gS hg;have GE651:=gS hg;replace HB:=sB hb;clear hb hbox hg))
  replace c:=aM (blk_drew c.out);replace HB:=aM (below_drew1 HB.out)
  refine start_ (n:=11) (S:=fun w'=>w'.cell? ⟨u,0,none⟩=some (.int .i64 b)∧w'.cell? ⟨u,1,none⟩=some (.int .i64 g)∧w'.cell? ⟨u,2,none⟩=some (.int .i64 j)∧w'.cell? ⟨u,3,none⟩=some (.int .i64 p)∧w'.cell? ⟨u,4,none⟩=some (.int .i64 m)∧w'.cell? ⟨u,5,none⟩=some (.int .i64 o)) (ds:=[]) #[false,false,false,false,false,false,false,false,false,false,false] (by kernel_rfl) rfl rfl ⟨(blk_cell c.out 0).trans rfl,(blk_cell c.out 1).trans rfl,(blk_cell c.out 2).trans rfl,(blk_cell c.out 3).trans rfl,(blk_cell c.out 4).trans rfl,(blk_cell c.out 5).trans rfl⟩ (fun hHeld=>?_);refine with_tabW spec_l12Half.tab2 spec_l12Half.bits2 (fun HT_ HW_=>?_)
  generalize bV.drew=bQ at c HB hHeld ⊢;refine pureZ 0 (some 6) (msk 11 1) HT_.out ?_;refine pureZ 5 (some 11) (msk 11 33) HT_.out ?_;refine pureZ 6 (some 12) (msk 11 97) HT_.out ?_;refine takeZ 1 (some 7) (msk 11 99) HT_.out HW_.out hHeld (hy:=q13x0) (h:=?_);refine pureZ 2 (some 8) (msk 11 103) HT_.out ?_;refine pureZ 3 (some 9) (msk 11 111) HT_.out ?_;refine takeZ 7 (some 13) (msk 11 239) HT_.out HW_.out hHeld (hy:=q13x0) (h:=?_)
  refine one_Z 4 (some 10) (msk 11 255) HT_.out fun K hK=>?_
  refine goE Tryz.func60 #[.int .i64 1,.int .i64 (wrap64 (3+(wrap64 (2*b))))] ?_
  with_reducible refine(spec_l11Word.calls 1 (wrap64 (3+(wrap64 (2*b)))) ac ad ae af ag ah ai _ W.out).mono ?_;rintro e eg ⟨rfl,hb⟩;refine⟨_,rfl,?_⟩;replace c:=kB c hb;replace HB:=sB hb;(try clear hb)
  refine hK.out _ _ qh13x0 (fun hHeld=>?_)
  clear hK K;refine normZ (some 10) ?_
  refine one_Z 8 (some 14) (msk 11 511) HT_.out fun K hK=>?_
  refine goE Tryz.func60 #[.int .i64 2,.int .i64 g] ?_
  with_reducible refine(spec_l11Word.calls 2 g aj ak al am an ao ap _ aP.out).mono ?_;rintro e bo ⟨rfl,hb⟩;refine⟨_,rfl,?_⟩;replace c:=kB c hb;replace HB:=sB hb;(try clear hb)
  refine hK.out _ _ qh13x0 (fun hHeld=>?_)
  clear hK K;refine normZ (some 14) ?_
  refine one_Z 9 (some 15) (msk 11 1023) HT_.out fun K hK=>?_
  refine R_lit_step k86 _ 86 ?hg (N:=15) ?hd (xs:=([(⟨ac,(⟨ad,ae,af,ag⟩ :S71),ah,ai⟩ :S86),(⟨aj,(⟨ak,al,am,an⟩ :S71),ao,ap⟩ :S86)] :List (S86))) (inner:=[.string ac,.int .i64 ad,.int .i64 ae,.int .i64 af,.int .i64 ag,.string ah,.string ai,.string aj,.int .i64 ak,.int .i64 al,.int .i64 am,.int .i64 an,.string ao,.string ap]) (ok:=fun _=>True) (okp:=fun _=>True) ?hr ?hp (fun _ hk=>hk) trivial (Below.refl _ _) (Nat.le_refl _) (by simp) ?_;(case hd=>rfl);(case hg=>rfl);(case hr=>first|(go_simp;done)|(go_simp;rfl));(case hp=>exact(Reps.c7 (show Kd.M k86 _ _ _ (⟨ac,(⟨ad,ae,af,ag⟩ :S71),ah,ai⟩ :S86) [.string ac,.int .i64 ad,.int .i64 ae,.int .i64 af,.int .i64 ag,.string ah,.string ai]from (k86_mkM _ _ _ (⟨ac,(⟨ad,ae,af,ag⟩ :S71),ah,ai⟩ :S86))) (Reps.c7 (show Kd.M k86 _ _ _ (⟨aj,(⟨ak,al,am,an⟩ :S71),ao,ap⟩ :S86) [.string aj,.int .i64 ak,.int .i64 al,.int .i64 am,.int .i64 an,.string ao,.string ap]from (k86_mkM _ _ _ (⟨aj,(⟨ak,al,am,an⟩ :S71),ao,ap⟩ :S86))) (Reps.none _ _))))
  intro eh ei aN hb hg_ hnew_;clear hg_ hnew_
  (first|rw[← bb.out]at aN|(simp only[Int.reduceToNat]at aN;rw[← bb.out]at aN))
  have bW:=aM (R_lower aN (below_size cB));replace c:=kB c hb;replace HB:=sB hb;clear hb aN
  refine hK.out _ _ qh13x0 (fun hHeld=>?_)
  clear hK K;refine normZ (some 15) ?_
  refine pureZ 10 (some 4) (msk 11 2047) HT_.out ?_
  refine done_ (done_of HT_.out (by kernel_rfl)) ?_
  try go_wp2
  go_ret;exact⟨_,rE,mR bW,cB⟩
 ·replace i:=Bool.eq_false_iff.mpr i;subst i;replace H:=iF H;replace H:=bE H;obtain⟨⟨aq,ar,au,av,aw,ax,ay⟩,a0,H⟩:=H;(try dsimp only at H);replace H:=bE H;obtain⟨⟨az,aA,aB,aC,aD,aE,aF⟩,bX,H⟩:=H;(try dsimp only at H);obtain⟨ej,bd⟩ : ∃ y_:List (S86),Aside0 (y_=(([(⟨aq,(⟨ar,au,av,aw⟩ :S71),ax,ay⟩ :S86),(⟨az,(⟨aA,aB,aC,aD⟩ :S71),aE,aF⟩ :S86)] :List (S86)))):=⟨_,⟨rfl⟩⟩;rw[← bd.out]at H;obtain rfl:=Option.some.inj H;go_enter Tryz.func140,Tryz.ntmps140
  try go_wp2_with (first|((with_reducible refine gN 2 ?_);refine boxZ 2 #[.int .i64 b,.int .i64 g,.int .i64 j,.int .i64 p,.int .i64 m,.int .i64 o] 118 ?_;intro u hg bq hbox hb;have c:=aM (hbox);have GW651:=gS hg;have GE651:=gS hg;replace HB:=sB hb;clear hb hbox hg))
  replace c:=aM (blk_drew c.out);replace HB:=aM (below_drew1 HB.out)
  refine start_ (n:=11) (S:=fun w'=>w'.cell? ⟨u,0,none⟩=some (.int .i64 b)∧w'.cell? ⟨u,1,none⟩=some (.int .i64 g)∧w'.cell? ⟨u,2,none⟩=some (.int .i64 j)∧w'.cell? ⟨u,3,none⟩=some (.int .i64 p)∧w'.cell? ⟨u,4,none⟩=some (.int .i64 m)∧w'.cell? ⟨u,5,none⟩=some (.int .i64 o)) (ds:=[]) #[false,false,false,false,false,false,false,false,false,false,false] (by kernel_rfl) rfl rfl ⟨(blk_cell c.out 0).trans rfl,(blk_cell c.out 1).trans rfl,(blk_cell c.out 2).trans rfl,(blk_cell c.out 3).trans rfl,(blk_cell c.out 4).trans rfl,(blk_cell c.out 5).trans rfl⟩ (fun hHeld=>?_);refine with_tabW spec_l12Half.tab3 spec_l12Half.bits3 (fun HT_ HW_=>?_)
  generalize bq.drew=bS at c HB hHeld ⊢;refine pureZ 0 (some 16) (msk 11 1) HT_.out ?_;refine pureZ 5 (some 21) (msk 11 33) HT_.out ?_;refine pureZ 6 (some 22) (msk 11 97) HT_.out ?_;refine takeZ 1 (some 17) (msk 11 99) HT_.out HW_.out hHeld (hy:=q13x0) (h:=?_);refine pureZ 2 (some 18) (msk 11 103) HT_.out ?_;refine pureZ 3 (some 19) (msk 11 111) HT_.out ?_;refine takeZ 7 (some 23) (msk 11 239) HT_.out HW_.out hHeld (hy:=q13x0) (h:=?_)
  refine one_Z 4 (some 20) (msk 11 255) HT_.out fun K hK=>?_
  refine goE Tryz.func60 #[.int .i64 1,.int .i64 (wrap64 (2+(wrap64 (2*b))))] ?_
  with_reducible refine(spec_l11Word.calls 1 (wrap64 (2+(wrap64 (2*b)))) aq ar au av aw ax ay _ a0.out).mono ?_;rintro e ek ⟨rfl,hb⟩;refine⟨_,rfl,?_⟩;replace c:=kB c hb;replace HB:=sB hb;(try clear hb)
  refine hK.out _ _ qh13x0 (fun hHeld=>?_)
  clear hK K;refine normZ (some 20) ?_
  refine one_Z 8 (some 24) (msk 11 511) HT_.out fun K hK=>?_
  refine goE Tryz.func60 #[.int .i64 2,.int .i64 j] ?_
  with_reducible refine(spec_l11Word.calls 2 j az aA aB aC aD aE aF _ bX.out).mono ?_;rintro e bT ⟨rfl,hb⟩;refine⟨_,rfl,?_⟩;replace c:=kB c hb;replace HB:=sB hb;(try clear hb)
  refine hK.out _ _ qh13x0 (fun hHeld=>?_)
  clear hK K;refine normZ (some 24) ?_
  refine one_Z 9 (some 25) (msk 11 1023) HT_.out fun K hK=>?_
  refine R_lit_step k86 _ 86 ?hg (N:=25) ?hd (xs:=([(⟨aq,(⟨ar,au,av,aw⟩ :S71),ax,ay⟩ :S86),(⟨az,(⟨aA,aB,aC,aD⟩ :S71),aE,aF⟩ :S86)] :List (S86))) (inner:=[.string aq,.int .i64 ar,.int .i64 au,.int .i64 av,.int .i64 aw,.string ax,.string ay,.string az,.int .i64 aA,.int .i64 aB,.int .i64 aC,.int .i64 aD,.string aE,.string aF]) (ok:=fun _=>True) (okp:=fun _=>True) ?hr ?hp (fun _ hk=>hk) trivial (Below.refl _ _) (Nat.le_refl _) (by simp) ?_;(case hd=>rfl);(case hg=>rfl);(case hr=>first|(go_simp;done)|(go_simp;rfl));(case hp=>exact(Reps.c7 (show Kd.M k86 _ _ _ (⟨aq,(⟨ar,au,av,aw⟩ :S71),ax,ay⟩ :S86) [.string aq,.int .i64 ar,.int .i64 au,.int .i64 av,.int .i64 aw,.string ax,.string ay]from (k86_mkM _ _ _ (⟨aq,(⟨ar,au,av,aw⟩ :S71),ax,ay⟩ :S86))) (Reps.c7 (show Kd.M k86 _ _ _ (⟨az,(⟨aA,aB,aC,aD⟩ :S71),aE,aF⟩ :S86) [.string az,.int .i64 aA,.int .i64 aB,.int .i64 aC,.int .i64 aD,.string aE,.string aF]from (k86_mkM _ _ _ (⟨az,(⟨aA,aB,aC,aD⟩ :S71),aE,aF⟩ :S86))) (Reps.none _ _))))
  intro el em aO hb hg_ hnew_;clear hg_ hnew_
  (first|rw[← bd.out]at aO|(simp only[Int.reduceToNat]at aO;rw[← bd.out]at aO))
  have bY:=aM (R_lower aO (below_size cB));replace c:=kB c hb;replace HB:=sB hb;clear hb aO
  refine hK.out _ _ qh13x0 (fun hHeld=>?_)
  clear hK K;refine normZ (some 25) ?_
  refine pureZ 10 (some 4) (msk 11 2047) HT_.out ?_
  refine done_ (done_of HT_.out (by kernel_rfl)) ?_
  try go_wp2
  go_ret;exact⟨_,rE,mR bY,cB⟩
end Go.Proofs.YtpbalojiaghfhaaGreat.PFnExactCompile
