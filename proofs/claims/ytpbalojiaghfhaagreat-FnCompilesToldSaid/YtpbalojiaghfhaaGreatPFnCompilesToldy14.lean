import Derived.Test.YtpbalojiaghfhaaGreatPFnCompilesToldy0
import Derived.Test.YtpbalojiaghfhaaGreatPFnCompilesToldy13
namespace Go.Proofs.YtpbalojiaghfhaaGreat.PFnCompilesTold
open Go.RowKit Go.Proofs.YtpbalojiaghfhaaGreatW.PrintWords Go.Proofs.YtpbalojiaghfhaaGreatW.PrintLast Go.Proofs.YtpbalojiaghfhaaGreatW.PrintMore Go.Proofs.YtpbalojiaghfhaaGreatW.Z
open Kd
attribute [local go_sem] isS max2_int min2_int max_two min_two max_three min_three max_four min_four
set_option linter.unusedVariables false
set_option linter.unusedSimpArgs false
theorem qh14x0 {P:Prop} (h:P:=by exact⟨(blk_cell d.out 0).trans rfl,(blk_cell d.out 1).trans rfl,(blk_cell d.out 2).trans rfl,(blk_cell d.out 3).trans rfl,(blk_cell d.out 4).trans rfl,(blk_cell d.out 5).trans rfl⟩):P:=h
def spec_ResultOf.f (a:Int) (b:Int):Option (Int):=(spec_l01In.f a 0 5).bind fun aT=>(if aT=true then((spec_l01In.f b 0 65535).bind fun aU=>(if aU=true then(some (wrap64 ((wrap64 (65536*a))+b)))else(some 0)))else(some 0))
set_option maxHeartbeats 8000000 in
set_option maxRecDepth 100000 in
theorem spec_ResultOf.calls {a:Int}{b:Int}{r:Int}{w:World}(h:spec_ResultOf.f a b=some r) :
 Calls Tryz.prog 46 #[.int .i64 a,.int .i64 b] w fun e w'=>e= .returned (.int .i64 r)∧Drawn0 w w':=by
 unfold spec_ResultOf.f at h;have H:=h
 clear h;replace H:=bE H;obtain⟨aT,aV,H⟩:=H;by_cases v:aT=true
 ·subst v;replace H:=iT H;replace H:=bE H;obtain⟨aU,aP,H⟩:=H;by_cases x:aU=true
  ·subst x;replace H:=iT H;obtain rfl:=Option.some.inj H;go_enter Tryz.func46,Tryz.ntmps46
   go_wp2_with (first|((with_reducible refine gF 47 ?_);refine gX (some 6) Tryz.func47 (spec_l01In.calls aV.out) ?_;rintro w' ⟨nd,rfl⟩)|(go_at_call 47;(with_reducible refine(spec_l01In.calls aP.out).mono ?_);rintro e w' ⟨rfl,⟨nd,rfl⟩⟩))
   go_ret
   exact⟨by first|rfl|(simp;done)|(simp[*];done),by repeat(first|exact Drawn0.refl _|apply Drawn0.step)⟩
  ·replace x:=Bool.eq_false_iff.mpr x;subst x;replace H:=iF H;obtain rfl:=Option.some.inj H;go_enter Tryz.func46,Tryz.ntmps46
   go_wp2_with (first|((with_reducible refine gF 47 ?_);refine gX (some 6) Tryz.func47 (spec_l01In.calls aV.out) ?_;rintro w' ⟨nd,rfl⟩)|(go_at_call 47;(with_reducible refine(spec_l01In.calls aP.out).mono ?_);rintro e w' ⟨rfl,⟨nd,rfl⟩⟩))
   go_ret
   exact⟨by first|rfl|(simp;done)|(simp[*];done),by repeat(first|exact Drawn0.refl _|apply Drawn0.step)⟩
 ·replace v:=Bool.eq_false_iff.mpr v;subst v;replace H:=iF H;obtain rfl:=Option.some.inj H;go_enter Tryz.func46,Tryz.ntmps46
  go_wp2_with (first|((with_reducible refine gF 47 ?_);refine gX (some 6) Tryz.func47 (spec_l01In.calls aV.out) ?_;rintro w' ⟨nd,rfl⟩))
  go_ret
  exact⟨by first|rfl|(simp;done)|(simp[*];done),by repeat(first|exact Drawn0.refl _|apply Drawn0.step)⟩
def spec_l09In.l0:Nat→List Int→Int→Int→Option (Bool)
  | 0,_,_,_=>none
  | k+1,A,ba,aQ=>if aQ<(A.length:Int)then(if 0≤aQ then(if(rd A aQ)=ba then(some true)else(spec_l09In.l0 k A ba (wrap64 (aQ+1))))else(none))else(some false)
def spec_l09In.f (k:Nat) (q:List Int) (b:Int):Option (Bool):=spec_l09In.l0 k q b 0
set_option maxHeartbeats 8000000 in
set_option maxRecDepth 100000 in
theorem spec_l09In.calls {k:Nat}{bb:Option Addr}{bd:Nat}{q:List Int}{b:Int}{r:Bool}{w:World}(h:spec_l09In.f k q b=some r)(be:Kd.C (Kd.int .i64) w bb q.length q)(bf:q.length≤bd) :
 Calls Tryz.prog 58 #[.slice bb q.length bd,.int .i64 b] w fun e w'=>e= .returned (.bool r)∧Drawn0 w w':=by
 have HR0:=aM be;have HC0:=aM bf;clear be bf;have H:(spec_l09In.l0 k q b 0)=some r:=h;clear h;have H':=aM H;clear H;go_enter Tryz.func58,Tryz.ntmps58;go_wp2
 go_loopg [5] k (fun kq bu w'=> ∃ (u:Int),bu= .int .i64 u∧Aside0 (spec_l09In.l0 kq q b u=some r)∧Aside0 (kq≤k)∧Drawn0 w w')
 case atStart=>exact⟨(0),rS,H',⟨Nat.le_refl _⟩,by repeat(first|exact Drawn0.refl _|apply Drawn0.step)⟩
 case round=>
  clear H';obtain⟨u,rfl,HA,HK1,⟨m1,rfl⟩⟩:=hrel
  cases gk with
  | zero=>exact absurd HA.out (by simp[spec_l09In.l0])
  | succ k1=>
   have H:=HA.out;clear HA;simp only[spec_l09In.l0]at H;by_cases c:u<(q.length:Int)
   ·rw[if_pos c]at H;have aW:=decide_eq_true c;clear c;replace H:=gD H;obtain⟨E,H⟩:=H;by_cases p:(rd q u)=b
    ·rw[if_pos p]at H;obtain⟨bg,bh⟩:=eT p;clear p;obtain rfl:=Option.some.inj H;have G:0≤(u:Int):=dA;have I:u<(q.length:Int):=dA;obtain⟨bv,aX,bw⟩:=at_int HR0.out u G I;cases aX;replace G:=eq_true G;replace I:=eq_true I;go_wp2;go_ret
     exact⟨by first|rfl|(simp;done)|(simp[*];done),by repeat(first|exact Drawn0.refl _|apply Drawn0.step)⟩
    ·rw[if_neg p]at H;obtain⟨bg,bh⟩:=eF p;have H':=aM H;clear H;have G:0≤(u:Int):=dA;have I:u<(q.length:Int):=dA;obtain⟨bv,aX,bw⟩:=at_int HR0.out u G I;cases aX;replace G:=eq_true G;replace I:=eq_true I;go_wp2;go_roundg k1
     case measure=>exact oK
     case rel=>exact⟨(wrap64 (u+1)),rS,H',⟨oK⟩,by repeat(first|exact Drawn0.refl _|apply Drawn0.step)⟩
   ·rw[if_neg c]at H;have aW:=decide_eq_false c;clear c;obtain rfl:=Option.some.inj H;go_wp2;go_ret
    exact⟨by first|rfl|(simp;done)|(simp[*];done),by repeat(first|exact Drawn0.refl _|apply Drawn0.step)⟩
def spec_l11Word.f (a:Int) (b:Int):Option (ByteArray×Int×Int×Int×Int×ByteArray×ByteArray):=some ((⟨#[]⟩ :ByteArray),a,b,0,0,(⟨#[]⟩ :ByteArray),(⟨#[]⟩ :ByteArray))
set_option maxHeartbeats 8000000 in
set_option maxRecDepth 100000 in
theorem spec_l11Word.calls {a:Int}{b:Int}{r1:ByteArray}{r2:Int}{r3:Int}{r4:Int}{r5:Int}{r6:ByteArray}{r7:ByteArray}{w:World}(h:spec_l11Word.f a b=some (r1,r2,r3,r4,r5,r6,r7)) :
 Calls Tryz.prog 60 #[.int .i64 a,.int .i64 b] w fun e w'=>e= .returned (.agg #[.string r1,.int .i64 r2,.int .i64 r3,.int .i64 r4,.int .i64 r5,.string r6,.string r7])∧Below w.heap.size w w':=by
 have hu86:=Tryz.underlying86;have hu71:=Tryz.underlying71;have HB:=rW w;have H:(some ((⟨#[]⟩ :ByteArray),a,b,0,0,(⟨#[]⟩ :ByteArray),(⟨#[]⟩ :ByteArray)))=some (r1,r2,r3,r4,r5,r6,r7):=h;clear h;simp only[Option.some.injEq,Prod.mk.injEq]at H;obtain⟨rfl,rfl,rfl,rfl,rfl,rfl,rfl⟩:=H;go_enter Tryz.func60,Tryz.ntmps60
 go_wp2_with (first|((with_reducible refine gN 4 ?_);refine boxZ 4 #[.string (⟨#[]⟩ :ByteArray),.int .i64 0,.int .i64 0,.int .i64 0,.int .i64 0,.string (⟨#[]⟩ :ByteArray),.string (⟨#[]⟩ :ByteArray)] 86 ?_;intro bx hg bZ hbox hb;have bi:=aM hbox;have GW632:=gS hg;have GE632:=gS hg;replace HB:=sB hb;clear hb hbox hg;obtain⟨b0,b1,b5,b8,b9,ca,cb,cc,cd,ce,cf,cg,ch,ci⟩:=cz7 bi))
 refine bodyPost_ret (results_cell_row rfl _ _ bx 86 #[.string (⟨#[]⟩ :ByteArray),.int .i64 a,.int .i64 b,.int .i64 0,.int .i64 0,.string (⟨#[]⟩ :ByteArray),.string (⟨#[]⟩ :ByteArray)] (0,0) _ rfl (kS bi _) Tryz.underlying86 rfl (by kernel_rfl)) rfl ?_
 exact⟨rE,cB⟩
def spec_l01Figure.f (a:Int):Option (Int):=if a<10 then(some ((wrap64 (48+a)) % 256))else(some ((wrap64 ((wrap64 (97+a)) - 10)) % 256))
set_option maxHeartbeats 8000000 in
set_option maxRecDepth 100000 in
theorem spec_l01Figure.calls {a:Int}{r:Int}{w:World}(h:spec_l01Figure.f a=some r) :
 Calls Tryz.prog 116 #[.int .i64 a] w fun e w'=>e= .returned (.int .u8 r)∧Drawn0 w w':=by
 have H:(if a<10 then(some ((wrap64 (48+a)) % 256))else(some ((wrap64 ((wrap64 (97+a)) - 10)) % 256)))=some r:=h;clear h;by_cases s:a<10
 ·rw[if_pos s]at H;have aR:=decide_eq_true s;clear s;obtain rfl:=Option.some.inj H;go_enter Tryz.func116,Tryz.ntmps116;go_wp2;go_ret
  exact⟨by first|rfl|(simp;done)|(simp[*];done),by repeat(first|exact Drawn0.refl _|apply Drawn0.step)⟩
 ·rw[if_neg s]at H;have aR:=decide_eq_false s;clear s;obtain rfl:=Option.some.inj H;go_enter Tryz.func116,Tryz.ntmps116;go_wp2;go_ret
  exact⟨by first|rfl|(simp;done)|(simp[*];done),by repeat(first|exact Drawn0.refl _|apply Drawn0.step)⟩
def spec_Decimal.l0:Nat→Int→Bool→ByteArray→Option (ByteArray)
  | 0,_,_,_=>none
  | k+1,A,aY,J=>if A=0 then(if aY=true then(if 1+J.size≤9223372036854775807 then(some ((⟨#[45]⟩ :ByteArray) ++ J))else(none))else(some J))else(if(Int.tmod A 10)<0 then((spec_l01Figure.f (wrap64 (-(Int.tmod A 10)))).bind fun aa=>((some (([aa] :List Int):List Int)).bind fun ab=>(if(strOfNums ab).size+J.size≤9223372036854775807 then(spec_Decimal.l0 k (wrap64 (Int.tdiv A 10)) aY ((strOfNums ab) ++ J))else(none))))else((spec_l01Figure.f (Int.tmod A 10)).bind fun ac=>((some (([ac] :List Int):List Int)).bind fun ad=>(if(strOfNums ad).size+J.size≤9223372036854775807 then(spec_Decimal.l0 k (wrap64 (Int.tdiv A 10)) aY ((strOfNums ad) ++ J))else(none)))))
def spec_Decimal.f (k:Nat) (a:Int):Option (ByteArray):=if a=0 then(some (⟨#[48]⟩ :ByteArray))else(spec_Decimal.l0 k a (decide (a<0)) (⟨#[]⟩ :ByteArray))
set_option maxHeartbeats 8000000 in
set_option maxRecDepth 100000 in
theorem spec_Decimal.calls {k:Nat}{a:Int}{r:ByteArray}{w:World}(h:spec_Decimal.f k a=some r) :
 Calls Tryz.prog 96 #[.int .i64 a] w fun e w'=>e= .returned (.string r)∧Below w.heap.size w w':=by
 have HB:=rW w;have H:(if a=0 then(some (⟨#[48]⟩ :ByteArray))else(spec_Decimal.l0 k a (decide (a<0)) (⟨#[]⟩ :ByteArray)))=some r:=h;clear h;by_cases s:a=0
 ·rw[if_pos s]at H;obtain⟨aR,bj⟩:=eT s;clear s;obtain rfl:=Option.some.inj H;go_enter Tryz.func96,Tryz.ntmps96;go_wp2;go_ret;exact⟨rE,cB⟩
 ·rw[if_neg s]at H;obtain⟨aR,bj⟩:=eF s;have H':=aM H;clear H;go_enter Tryz.func96,Tryz.ntmps96;go_wp2
  go_loopg [0,4] k (fun kq bz bA w'=> ∃ (L:Int) (z:ByteArray),bz= .int .i64 L∧bA= .string z∧Aside0 (spec_Decimal.l0 kq L (decide (a<0)) z=some r)∧Aside0 (kq≤k)∧Aside0 (Below w.heap.size w w'))
  case atStart=>exact⟨(a),((⟨#[]⟩ :ByteArray)),rS,rS,H',⟨Nat.le_refl _⟩,⟨cB⟩⟩
  case round=>
   clear H';(try clear s);(try clear aR);(try clear bj);obtain⟨L,z,rfl,rfl,HA,HK1,HB⟩:=hrel
   cases gk with
   | zero=>exact absurd HA.out (by simp[spec_Decimal.l0])
   | succ k1=>
    have H:=HA.out;clear HA;simp only[spec_Decimal.l0]at H;by_cases c:L=0
    ·rw[if_pos c]at H;obtain⟨aW,bB⟩:=eT c;clear c;by_cases v:(decide (a<0))=true
     ·rw[if_pos v]at H;have E:(decide (a<0))=true:=v;(try have bC:(0≤a)=False:=eq_false (by have h_:=of_decide_eq_true E;omega));(try have bD:(a<0)=True:=eq_true (of_decide_eq_true E));clear v;replace H:=gC H;obtain⟨p,H⟩:=H;have bg:=eq_true p;have bh:decide (1+z.size≤9223372036854775807)=true:=decide_eq_true p
      try have cj:(9223372036854775807<1+z.size)=False:=eq_false (Nat.not_lt.2 p)
      obtain rfl:=Option.some.inj H;go_wp2;(try any_goals (exfalso;have h_:=of_decide_eq_true E;omega));go_ret;exact⟨rE,cB⟩
     ·rw[if_neg v]at H
      have E:(decide (a<0))=false:=by simpa using v
      (try have bC:(0≤a)=True:=eq_true (by have h_:=of_decide_eq_false E;omega));(try have bD:(a<0)=False:=eq_false (of_decide_eq_false E))
      clear v;obtain rfl:=Option.some.inj H;go_wp2;(try any_goals (exfalso;have h_:=of_decide_eq_false E;omega));go_ret;exact⟨rE,cB⟩
    ·rw[if_neg c]at H;obtain⟨aW,bB⟩:=eF c;by_cases x:(Int.tmod L 10)<0
     ·rw[if_pos x]at H;have bF:=decide_eq_true x;clear x;replace H:=bE H;obtain⟨aa,bG,H⟩:=H;replace H:=nE H;obtain⟨ab,bk,H⟩:=H;replace H:=gC H;obtain⟨aZ,H⟩:=H;have ck:=eq_true aZ;have cl:decide ((strOfNums ab).size+z.size≤9223372036854775807)=true:=decide_eq_true aZ
      try have cm:(9223372036854775807<(strOfNums ab).size+z.size)=False:=eq_false (Nat.not_lt.2 aZ)
      have H':=aM H;clear H
      go_wp2_with (first|((with_reducible refine gF 116 ?_);refine gX (some 19) Tryz.func116 (spec_l01Figure.calls bG.out) ?_;rintro w' ⟨nd,rfl⟩)|((with_reducible refine gN 20 ?_);refine R_lit (Kd.int .u8) _ 5 ?hg (N:=20) ?hd (xs:=([aa] :List Int)) (inner:=[.int .u8 aa]) (ok:=fun _=>True) (okp:=fun _=>True) ?hr ?hp (fun _ hk=>hk) trivial (Below.refl _ _) (Nat.le_refl _) (by simp) ?_;(case hd=>rfl);(case hg=>rfl);(case hr=>exact rG);(case hp=>exact(Reps.one (show Kd.M (Kd.int .u8) _ _ _ aa [.int .u8 aa]from rfl) (Reps.none _ _)));intro cn bl aK hb hg_ hnew_;clear hg_ hnew_;(first|rw[← bk.out]at aK|(simp only[Int.reduceToNat]at aK;rw[← bk.out]at aK));have bH:=rL aK;replace HB:=sB hb;clear hb aK;have hcv11:=own_string (P:=Tryz.prog) Tryz.underlying22 Tryz.underlying5 Tryz.underlying9 (own_of_R bH.out)))
      go_roundg k1
      case measure=>exact oK
      case rel=>exact⟨(wrap64 (Int.tdiv L 10)),((strOfNums ab) ++ z),rS,rS,H',⟨oK⟩,⟨cB⟩⟩
     ·rw[if_neg x]at H;have bF:=decide_eq_false x;clear x;replace H:=bE H;obtain⟨ac,a0,H⟩:=H;replace H:=nE H;obtain⟨ad,bm,H⟩:=H;replace H:=gC H;obtain⟨a1,H⟩:=H;have co:=eq_true a1;have cp:decide ((strOfNums ad).size+z.size≤9223372036854775807)=true:=decide_eq_true a1
      try have cq:(9223372036854775807<(strOfNums ad).size+z.size)=False:=eq_false (Nat.not_lt.2 a1)
      have H':=aM H;clear H
      go_wp2_with (first|((with_reducible refine gF 116 ?_);refine gX (some 19) Tryz.func116 (spec_l01Figure.calls a0.out) ?_;rintro w' ⟨nd,rfl⟩)|((with_reducible refine gN 20 ?_);refine R_lit (Kd.int .u8) _ 5 ?hg (N:=20) ?hd (xs:=([ac] :List Int)) (inner:=[.int .u8 ac]) (ok:=fun _=>True) (okp:=fun _=>True) ?hr ?hp (fun _ hk=>hk) trivial (Below.refl _ _) (Nat.le_refl _) (by simp) ?_;(case hd=>rfl);(case hg=>rfl);(case hr=>exact rG);(case hp=>exact(Reps.one (show Kd.M (Kd.int .u8) _ _ _ ac [.int .u8 ac]from rfl) (Reps.none _ _)));intro cr bn aL hb hg_ hnew_;clear hg_ hnew_;(first|rw[← bm.out]at aL|(simp only[Int.reduceToNat]at aL;rw[← bm.out]at aL));have bI:=rL aL;replace HB:=sB hb;clear hb aL;have hcv16:=own_string (P:=Tryz.prog) Tryz.underlying22 Tryz.underlying5 Tryz.underlying9 (own_of_R bI.out)))
      go_roundg k1
      case measure=>exact oK
      case rel=>exact⟨(wrap64 (Int.tdiv L 10)),((strOfNums ad) ++ z),rS,rS,H',⟨oK⟩,⟨cB⟩⟩
def spec_HalfOk.f (a:Int):Option (Bool):=(spec_l01In.f a 0 4294967295).bind fun bo=>(some bo)
set_option maxHeartbeats 8000000 in
set_option maxRecDepth 100000 in
theorem spec_HalfOk.calls {a:Int}{r:Bool}{w:World}(h:spec_HalfOk.f a=some r) :
 Calls Tryz.prog 83 #[.int .i64 a] w fun e w'=>e= .returned (.bool r)∧Drawn0 w w':=by
 unfold spec_HalfOk.f at h;have H:=h
 clear h;replace H:=bE H;obtain⟨bo,D,H⟩:=H;obtain rfl:=Option.some.inj H;go_enter Tryz.func83,Tryz.ntmps83
 go_wp2_with (first|((with_reducible refine gF 47 ?_);refine gX (some 4) Tryz.func47 (spec_l01In.calls D.out) ?_;rintro w' ⟨nd,rfl⟩))
 go_ret
 exact⟨by first|rfl|(simp;done)|(simp[*];done),by repeat(first|exact Drawn0.refl _|apply Drawn0.step)⟩
def spec_WideOk.f (g:Int) (i:Int):Option (Bool):=(spec_HalfOk.f g).bind fun a2=>(if a2=true then((spec_HalfOk.f i).bind fun bp=>(some bp))else(some false))
set_option maxHeartbeats 8000000 in
set_option maxRecDepth 100000 in
theorem spec_WideOk.calls {g:Int}{i:Int}{r:Bool}{w:World}(h:spec_WideOk.f g i=some r) :
 Calls Tryz.prog 89 #[.agg #[.int .i64 g,.int .i64 i]] w fun e w'=>e= .returned (.bool r)∧Below w.heap.size w w':=by
 have hu105:=Tryz.underlying105;have HB:=rW w
 unfold spec_WideOk.f at h;have H:=h
 clear h;replace H:=bE H;obtain⟨a2,D,H⟩:=H;by_cases c:a2=true
 ·subst c;replace H:=iT H;replace H:=bE H;obtain⟨bp,O,H⟩:=H;obtain rfl:=Option.some.inj H;go_enter Tryz.func89,Tryz.ntmps89
  go_wp2_with (first|((with_reducible refine gN 1 ?_);refine boxZ 1 #[.int .i64 g,.int .i64 i] 105 ?_;intro bJ hg bL hbox hb;have a3:=aM hbox;have GW642:=gS hg;have GE642:=gS hg;replace HB:=sB hb;clear hb hbox hg;obtain⟨bM,bN,bO,bP⟩:=cz2 a3)|((with_reducible refine gF 83 ?_);refine gX (some 5) Tryz.func83 (spec_HalfOk.calls D.out) ?_;rintro w' ⟨nd,rfl⟩)|(go_at_call 83;(with_reducible refine(spec_HalfOk.calls O.out).mono ?_);rintro e w' ⟨rfl,⟨nd,rfl⟩⟩))
  go_ret;exact⟨rE,cB⟩
 ·replace c:=Bool.eq_false_iff.mpr c;subst c;replace H:=iF H;obtain rfl:=Option.some.inj H;go_enter Tryz.func89,Tryz.ntmps89
  go_wp2_with (first|((with_reducible refine gN 1 ?_);refine boxZ 1 #[.int .i64 g,.int .i64 i] 105 ?_;intro bJ hg bQ hbox hb;have a3:=aM hbox;have GW642:=gS hg;have GE642:=gS hg;replace HB:=sB hb;clear hb hbox hg;obtain⟨cs,ct,cu,cv⟩:=cz2 a3)|((with_reducible refine gF 83 ?_);refine gX (some 5) Tryz.func83 (spec_HalfOk.calls D.out) ?_;rintro w' ⟨nd,rfl⟩))
  go_ret;exact⟨rE,cB⟩
def spec_CondOk.f (g:Int) (i:Int) (l:Int) (m:Int) (n:Int) (o:Int):Option (Bool):=(spec_l01In.f g 0 2).bind fun a4=>(if a4=true then((spec_WideOk.f i l).bind fun a5=>(if a5=true then((spec_WideOk.f n o).bind fun a6=>(if a6=true then((spec_l01In.f m 1 6).bind fun bq=>(some bq))else(some false)))else(some false)))else(some false))
set_option maxHeartbeats 8000000 in
set_option maxRecDepth 100000 in
theorem spec_CondOk.calls {g:Int}{i:Int}{l:Int}{m:Int}{n:Int}{o:Int}{r:Bool}{w:World}(h:spec_CondOk.f g i l m n o=some r) :
 Calls Tryz.prog 110 #[.agg #[.int .i64 g,.int .i64 i,.int .i64 l,.int .i64 m,.int .i64 n,.int .i64 o]] w fun e w'=>e= .returned (.bool r)∧Below w.heap.size w w':=by
 have hu118:=Tryz.underlying118;have hu105:=Tryz.underlying105;have HB:=rW w
 unfold spec_CondOk.f at h;have H:=h
 clear h;replace H:=bE H;obtain⟨a4,D,H⟩:=H;by_cases c:a4=true
 ·subst c;replace H:=iT H;replace H:=bE H;obtain⟨a5,O,H⟩:=H;by_cases p:a5=true
  ·subst p;replace H:=iT H;replace H:=bE H;obtain⟨a6,br,H⟩:=H;by_cases aS:a6=true
   ·subst aS;replace H:=iT H;replace H:=bE H;obtain⟨bq,bR,H⟩:=H;obtain rfl:=Option.some.inj H;go_enter Tryz.func110,Tryz.ntmps110
    go_wp2_with (first|((with_reducible refine gN 1 ?_);refine boxZ 1 #[.int .i64 g,.int .i64 i,.int .i64 l,.int .i64 m,.int .i64 n,.int .i64 o] 118 ?_;intro a7 hg bl hbox hb;have j:=aM hbox;have GW645:=gS hg;have GE645:=gS hg;replace HB:=sB hb;clear hb hbox hg;obtain⟨cw,cx,cy,cz,cA,cD,cE,cF,cG,cI,cJ,cL⟩:=cz6 j)|((with_reducible refine gF 47 ?_);refine gX (some 5) Tryz.func47 (spec_l01In.calls D.out) ?_;rintro w' ⟨nd,rfl⟩)|(go_at_call 89;(with_reducible refine(spec_WideOk.calls O.out).mono ?_);rintro e cM ⟨rfl,hb⟩;replace j:=kB j hb;replace HB:=sB hb;(try clear hb);obtain⟨cN,cO,cP,cQ,cR,cS,cT,cU,cV,cW,cX,cY⟩:=cz6 j)|(go_at_call 89;(with_reducible refine(spec_WideOk.calls br.out).mono ?_);rintro e cZ ⟨rfl,hb⟩;replace j:=kB j hb;replace HB:=sB hb;(try clear hb);obtain⟨c0,c1,c2,c3,c4,c5,c6,c7,c8,da,db,dc⟩:=cz6 j)|(go_at_call 47;(with_reducible refine(spec_l01In.calls bR.out).mono ?_);rintro e w' ⟨rfl,⟨nd,rfl⟩⟩))
    go_ret;exact⟨rE,cB⟩
   ·replace aS:=Bool.eq_false_iff.mpr aS;subst aS;replace H:=iF H;obtain rfl:=Option.some.inj H;go_enter Tryz.func110,Tryz.ntmps110
    go_wp2_with (first|((with_reducible refine gN 1 ?_);refine boxZ 1 #[.int .i64 g,.int .i64 i,.int .i64 l,.int .i64 m,.int .i64 n,.int .i64 o] 118 ?_;intro a7 hg bS hbox hb;have j:=aM hbox;have GW645:=gS hg;have GE645:=gS hg;replace HB:=sB hb;clear hb hbox hg;obtain⟨dd,de,df,dg,dh,di,dj,dk,dl,dm,dn,dp⟩:=cz6 j)|((with_reducible refine gF 47 ?_);refine gX (some 5) Tryz.func47 (spec_l01In.calls D.out) ?_;rintro w' ⟨nd,rfl⟩)|(go_at_call 89;(with_reducible refine(spec_WideOk.calls O.out).mono ?_);rintro e bT ⟨rfl,hb⟩;replace j:=kB j hb;replace HB:=sB hb;(try clear hb);obtain⟨dq,dr,ds,dt,du,dv,dw,dx,dy,dz,dC,dD⟩:=cz6 j)|(go_at_call 89;(with_reducible refine(spec_WideOk.calls br.out).mono ?_);rintro e dE ⟨rfl,hb⟩;replace j:=kB j hb;replace HB:=sB hb;(try clear hb)))
    go_ret;exact⟨rE,cB⟩
  ·replace p:=Bool.eq_false_iff.mpr p;subst p;replace H:=iF H;obtain rfl:=Option.some.inj H;go_enter Tryz.func110,Tryz.ntmps110
   go_wp2_with (first|((with_reducible refine gN 1 ?_);refine boxZ 1 #[.int .i64 g,.int .i64 i,.int .i64 l,.int .i64 m,.int .i64 n,.int .i64 o] 118 ?_;intro a7 hg dF hbox hb;have j:=aM hbox;have GW645:=gS hg;have GE645:=gS hg;replace HB:=sB hb;clear hb hbox hg;obtain⟨dG,dH,dI,dJ,dK,dL,dM,dN,dO,dP,dQ,dS⟩:=cz6 j)|((with_reducible refine gF 47 ?_);refine gX (some 5) Tryz.func47 (spec_l01In.calls D.out) ?_;rintro w' ⟨nd,rfl⟩)|(go_at_call 89;(with_reducible refine(spec_WideOk.calls O.out).mono ?_);rintro e dT ⟨rfl,hb⟩;replace j:=kB j hb;replace HB:=sB hb;(try clear hb)))
   go_ret;exact⟨rE,cB⟩
 ·replace c:=Bool.eq_false_iff.mpr c;subst c;replace H:=iF H;obtain rfl:=Option.some.inj H;go_enter Tryz.func110,Tryz.ntmps110
  go_wp2_with (first|((with_reducible refine gN 1 ?_);refine boxZ 1 #[.int .i64 g,.int .i64 i,.int .i64 l,.int .i64 m,.int .i64 n,.int .i64 o] 118 ?_;intro a7 hg dU hbox hb;have j:=aM hbox;have GW645:=gS hg;have GE645:=gS hg;replace HB:=sB hb;clear hb hbox hg;obtain⟨dV,dX,dY,dZ,d0,d1,d2,d3,d4,d5,d6,d7⟩:=cz6 j)|((with_reducible refine gF 47 ?_);refine gX (some 5) Tryz.func47 (spec_l01In.calls D.out) ?_;rintro w' ⟨nd,rfl⟩))
  go_ret;exact⟨rE,cB⟩
def spec_l11Asks.f (a:Int) (b:Int) (ae:ByteArray) (af:ByteArray):Option (ByteArray×Int×Int×Int×Int×ByteArray×ByteArray):=some ((⟨#[]⟩ :ByteArray),a,b,0,0,ae,af)
set_option maxHeartbeats 8000000 in
set_option maxRecDepth 100000 in
theorem spec_l11Asks.calls {a:Int}{b:Int}{ae:ByteArray}{af:ByteArray}{r1:ByteArray}{r2:Int}{r3:Int}{r4:Int}{r5:Int}{r6:ByteArray}{r7:ByteArray}{w:World}(h:spec_l11Asks.f a b ae af=some (r1,r2,r3,r4,r5,r6,r7)) :
 Calls Tryz.prog 62 #[.int .i64 a,.int .i64 b,.string ae,.string af] w fun e w'=>e= .returned (.agg #[.string r1,.int .i64 r2,.int .i64 r3,.int .i64 r4,.int .i64 r5,.string r6,.string r7])∧Below w.heap.size w w':=by
 have hu86:=Tryz.underlying86;have hu71:=Tryz.underlying71;have HB:=rW w;have H:(some ((⟨#[]⟩ :ByteArray),a,b,0,0,ae,af))=some (r1,r2,r3,r4,r5,r6,r7):=h;clear h;simp only[Option.some.injEq,Prod.mk.injEq]at H;obtain⟨rfl,rfl,rfl,rfl,rfl,rfl,rfl⟩:=H;go_enter Tryz.func62,Tryz.ntmps62
 go_wp2_with (first|((with_reducible refine gN 8 ?_);refine boxZ 8 #[.string (⟨#[]⟩ :ByteArray),.int .i64 0,.int .i64 0,.int .i64 0,.int .i64 0,.string (⟨#[]⟩ :ByteArray),.string (⟨#[]⟩ :ByteArray)] 86 ?_;intro bU hg bL hbox hb;have bs:=aM hbox;have GW650:=gS hg;have GE650:=gS hg;replace HB:=sB hb;clear hb hbox hg;obtain⟨bM,bN,d8,d9,ea,eb,ec,bO,bP,ed,ee,ef,eg,eh⟩:=cz7 bs))
 refine bodyPost_ret (results_cell_row rfl _ _ bU 86 #[.string (⟨#[]⟩ :ByteArray),.int .i64 a,.int .i64 b,.int .i64 0,.int .i64 0,.string ae,.string af] (0,0) _ rfl (kS bs _) Tryz.underlying86 rfl (by kernel_rfl)) rfl ?_
 exact⟨rE,cB⟩
def spec_l12Half.f (g:Int) (i:Int) (l:Int) (m:Int) (n:Int) (o:Int) (b:Bool):Option ((List (S86))):=if b=true then((spec_l11Word.f 1 (wrap64 (3+(wrap64 (2*g))))).bind fun U=>((spec_l11Word.f 2 i).bind fun W=>(some (([(⟨U.1,(⟨U.2.1,U.2.2.1,U.2.2.2.1,U.2.2.2.2.1⟩ :S71),U.2.2.2.2.2.1,U.2.2.2.2.2.2⟩ :S86),(⟨W.1,(⟨W.2.1,W.2.2.1,W.2.2.2.1,W.2.2.2.2.1⟩ :S71),W.2.2.2.2.2.1,W.2.2.2.2.2.2⟩ :S86)] :List (S86))))))else((spec_l11Word.f 1 (wrap64 (2+(wrap64 (2*g))))).bind fun X=>((spec_l11Word.f 2 l).bind fun Y=>(some (([(⟨X.1,(⟨X.2.1,X.2.2.1,X.2.2.2.1,X.2.2.2.2.1⟩ :S71),X.2.2.2.2.2.1,X.2.2.2.2.2.2⟩ :S86),(⟨Y.1,(⟨Y.2.1,Y.2.2.1,Y.2.2.2.1,Y.2.2.2.2.1⟩ :S71),Y.2.2.2.2.2.1,Y.2.2.2.2.2.2⟩ :S86)] :List (S86))))))
def spec_l12Half.T2:Bool×List (List Nat×List Nat):=(true,[([],[]),([0],[0]),([1],[1]),([2],[2]),([3],[3]),([],[]),([5],[5]),([6],[6]),([7,4],[7]),([4,8],[4,8]),([9,8,0,1,2,3,4,5,6,7,8,9],[9])])
def spec_l12Half.B2:List Nat:=[0,1,3,7,15,0,32,96,255,511,1023]
theorem spec_l12Half.tab2:rtab .any (opsOf Tryz.f140 2)=spec_l12Half.T2:=by kernel_rfl
theorem spec_l12Half.bits2:waitsOk spec_l12Half.T2.2 spec_l12Half.B2=true:=by kernel_rfl
def spec_l12Half.T3:Bool×List (List Nat×List Nat):=(true,[([],[]),([0],[0]),([1],[1]),([2],[2]),([3],[3]),([],[]),([5],[5]),([6],[6]),([7,4],[7]),([4,8],[4,8]),([9,8,0,1,2,3,4,5,6,7,8,9],[9])])
def spec_l12Half.B3:List Nat:=[0,1,3,7,15,0,32,96,255,511,1023]
theorem spec_l12Half.tab3:rtab .any (opsOf Tryz.f140 3)=spec_l12Half.T3:=by kernel_rfl
theorem spec_l12Half.bits3:waitsOk spec_l12Half.T3.2 spec_l12Half.B3=true:=by kernel_rfl
theorem q14x0 {P:Prop} (h:P:=by
 rintro w' ⟨s0,s1,s2,s3,s4,s5⟩
 go_simp
 with_reducible rfl):P:=h
set_option maxHeartbeats 8000000 in
set_option maxRecDepth 100000 in
theorem spec_l12Half.calls {g:Int}{i:Int}{l:Int}{m:Int}{n:Int}{o:Int}{b:Bool}{r:List (S86)}{w:World}(h:spec_l12Half.f g i l m n o b=some r) :
 Calls Tryz.prog 140 #[.agg #[.int .i64 g,.int .i64 i,.int .i64 l,.int .i64 m,.int .i64 n,.int .i64 o],.bool b] w fun e w'=> ∃ v0_:Value,e= .returned (v0_)∧Kd.R k86 86 w' w.heap.size (fun _=>True) v0_ r∧Below w.heap.size w w':=by
 have hu118:=Tryz.underlying118;have HB:=rW w
 unfold spec_l12Half.f at h;have H:=h
 clear h;by_cases c:b=true
 ·subst c;replace H:=iT H;replace H:=bE H;obtain⟨⟨ag,ah,ai,aj,ak,al,am⟩,O,H⟩:=H;(try dsimp only at H);replace H:=bE H;obtain⟨⟨an,ao,ap,aq,ar,au,av⟩,aP,H⟩:=H;(try dsimp only at H);obtain⟨ei,a8⟩ : ∃ y_:List (S86),Aside0 (y_=(([(⟨ag,(⟨ah,ai,aj,ak⟩ :S71),al,am⟩ :S86),(⟨an,(⟨ao,ap,aq,ar⟩ :S71),au,av⟩ :S86)] :List (S86)))):=⟨_,⟨rfl⟩⟩;rw[← a8.out]at H;obtain rfl:=Option.some.inj H;go_enter Tryz.func140,Tryz.ntmps140
  try go_wp2_with (first|((with_reducible refine gN 2 ?_);refine boxZ 2 #[.int .i64 g,.int .i64 i,.int .i64 l,.int .i64 m,.int .i64 n,.int .i64 o] 118 ?_;intro t hg bV hbox hb;have d:=aM hbox;have GW651:=gS hg;have GE651:=gS hg;replace HB:=sB hb;clear hb hbox hg))
  replace d:=dB d;replace HB:=dW HB
  refine sZ 11 (fun w'=>w'.cell? ⟨t,0,none⟩=some (.int .i64 g)∧w'.cell? ⟨t,1,none⟩=some (.int .i64 i)∧w'.cell? ⟨t,2,none⟩=some (.int .i64 l)∧w'.cell? ⟨t,3,none⟩=some (.int .i64 m)∧w'.cell? ⟨t,4,none⟩=some (.int .i64 n)∧w'.cell? ⟨t,5,none⟩=some (.int .i64 o)) spec_l12Half.tab2 spec_l12Half.bits2 qh14x0 fun HT_ HW_ hHeld=>?_
  generalize bV.drew=bQ at d HB hHeld ⊢;refine pZ 0 6 1 ?_;refine pZ 5 11 33 ?_;refine pZ 6 12 97 ?_;refine tZ 1 7 99 (y:=q14x0) (h:=?_);refine pZ 2 8 103 ?_;refine pZ 3 9 111 ?_;refine tZ 7 13 239 (y:=q14x0) (h:=?_)
  refine oZ 4 10 255 fun K hK=>?_
  refine eX Tryz.func60 (spec_l11Word.calls O.out) ?_
  intro ej hb;replace d:=kB d hb;replace HB:=sB hb;(try clear hb)
  refine hK.out _ _ qh14x0 (fun hHeld=>?_)
  clear hK K;refine normZ (some 10) ?_
  refine oZ 8 14 511 fun K hK=>?_
  refine eX Tryz.func60 (spec_l11Word.calls aP.out) ?_
  intro bl hb;replace d:=kB d hb;replace HB:=sB hb;(try clear hb)
  refine hK.out _ _ qh14x0 (fun hHeld=>?_)
  clear hK K;refine normZ (some 14) ?_
  refine oZ 9 15 1023 fun K hK=>?_
  refine R_lit_step k86 _ 86 ?hg (N:=15) ?hd (xs:=([(⟨ag,(⟨ah,ai,aj,ak⟩ :S71),al,am⟩ :S86),(⟨an,(⟨ao,ap,aq,ar⟩ :S71),au,av⟩ :S86)] :List (S86))) (inner:=[.string ag,.int .i64 ah,.int .i64 ai,.int .i64 aj,.int .i64 ak,.string al,.string am,.string an,.int .i64 ao,.int .i64 ap,.int .i64 aq,.int .i64 ar,.string au,.string av]) (ok:=fun _=>True) (okp:=fun _=>True) ?hr ?hp (fun _ hk=>hk) trivial (Below.refl _ _) (Nat.le_refl _) (by simp) ?_;(case hd=>rfl);(case hg=>rfl);(case hr=>first|(go_simp;done)|(go_simp;rfl));(case hp=>exact(Reps.c7 (show Kd.M k86 _ _ _ (⟨ag,(⟨ah,ai,aj,ak⟩ :S71),al,am⟩ :S86) [.string ag,.int .i64 ah,.int .i64 ai,.int .i64 aj,.int .i64 ak,.string al,.string am]from (k86_mkM _ _ _ (⟨ag,(⟨ah,ai,aj,ak⟩ :S71),al,am⟩ :S86))) (Reps.c7 (show Kd.M k86 _ _ _ (⟨an,(⟨ao,ap,aq,ar⟩ :S71),au,av⟩ :S86) [.string an,.int .i64 ao,.int .i64 ap,.int .i64 aq,.int .i64 ar,.string au,.string av]from (k86_mkM _ _ _ (⟨an,(⟨ao,ap,aq,ar⟩ :S71),au,av⟩ :S86))) (Reps.none _ _))))
  intro ek el aN hb hg_ hnew_;clear hg_ hnew_
  (first|rw[← a8.out]at aN|(simp only[Int.reduceToNat]at aN;rw[← a8.out]at aN))
  have bW:=rL aN;replace d:=kB d hb;replace HB:=sB hb;clear hb aN
  refine hK.out _ _ qh14x0 (fun hHeld=>?_)
  clear hK K;refine normZ (some 15) ?_
  refine pZ 10 4 2047 ?_
  refine done_ (done_of HT_.out (by kernel_rfl)) ?_
  try go_wp2
  go_ret;exact⟨_,rE,mR bW,cB⟩
 ·replace c:=Bool.eq_false_iff.mpr c;subst c;replace H:=iF H;replace H:=bE H;obtain⟨⟨aw,ax,ay,az,aA,aB,aC⟩,a0,H⟩:=H;(try dsimp only at H);replace H:=bE H;obtain⟨⟨aD,aE,aF,aG,aH,aI,aJ⟩,bX,H⟩:=H;(try dsimp only at H);obtain⟨em,a9⟩ : ∃ y_:List (S86),Aside0 (y_=(([(⟨aw,(⟨ax,ay,az,aA⟩ :S71),aB,aC⟩ :S86),(⟨aD,(⟨aE,aF,aG,aH⟩ :S71),aI,aJ⟩ :S86)] :List (S86)))):=⟨_,⟨rfl⟩⟩;rw[← a9.out]at H;obtain rfl:=Option.some.inj H;go_enter Tryz.func140,Tryz.ntmps140
  try go_wp2_with (first|((with_reducible refine gN 2 ?_);refine boxZ 2 #[.int .i64 g,.int .i64 i,.int .i64 l,.int .i64 m,.int .i64 n,.int .i64 o] 118 ?_;intro t hg bn hbox hb;have d:=aM hbox;have GW651:=gS hg;have GE651:=gS hg;replace HB:=sB hb;clear hb hbox hg))
  replace d:=dB d;replace HB:=dW HB
  refine sZ 11 (fun w'=>w'.cell? ⟨t,0,none⟩=some (.int .i64 g)∧w'.cell? ⟨t,1,none⟩=some (.int .i64 i)∧w'.cell? ⟨t,2,none⟩=some (.int .i64 l)∧w'.cell? ⟨t,3,none⟩=some (.int .i64 m)∧w'.cell? ⟨t,4,none⟩=some (.int .i64 n)∧w'.cell? ⟨t,5,none⟩=some (.int .i64 o)) spec_l12Half.tab3 spec_l12Half.bits3 qh14x0 fun HT_ HW_ hHeld=>?_
  generalize bn.drew=bS at d HB hHeld ⊢;refine pZ 0 16 1 ?_;refine pZ 5 21 33 ?_;refine pZ 6 22 97 ?_;refine tZ 1 17 99 (y:=q14x0) (h:=?_);refine pZ 2 18 103 ?_;refine pZ 3 19 111 ?_;refine tZ 7 23 239 (y:=q14x0) (h:=?_)
  refine oZ 4 20 255 fun K hK=>?_
  refine eX Tryz.func60 (spec_l11Word.calls a0.out) ?_
  intro en hb;replace d:=kB d hb;replace HB:=sB hb;(try clear hb)
  refine hK.out _ _ qh14x0 (fun hHeld=>?_)
  clear hK K;refine normZ (some 20) ?_
  refine oZ 8 24 511 fun K hK=>?_
  refine eX Tryz.func60 (spec_l11Word.calls bX.out) ?_
  intro bT hb;replace d:=kB d hb;replace HB:=sB hb;(try clear hb)
  refine hK.out _ _ qh14x0 (fun hHeld=>?_)
  clear hK K;refine normZ (some 24) ?_
  refine oZ 9 25 1023 fun K hK=>?_
  refine R_lit_step k86 _ 86 ?hg (N:=25) ?hd (xs:=([(⟨aw,(⟨ax,ay,az,aA⟩ :S71),aB,aC⟩ :S86),(⟨aD,(⟨aE,aF,aG,aH⟩ :S71),aI,aJ⟩ :S86)] :List (S86))) (inner:=[.string aw,.int .i64 ax,.int .i64 ay,.int .i64 az,.int .i64 aA,.string aB,.string aC,.string aD,.int .i64 aE,.int .i64 aF,.int .i64 aG,.int .i64 aH,.string aI,.string aJ]) (ok:=fun _=>True) (okp:=fun _=>True) ?hr ?hp (fun _ hk=>hk) trivial (Below.refl _ _) (Nat.le_refl _) (by simp) ?_;(case hd=>rfl);(case hg=>rfl);(case hr=>first|(go_simp;done)|(go_simp;rfl));(case hp=>exact(Reps.c7 (show Kd.M k86 _ _ _ (⟨aw,(⟨ax,ay,az,aA⟩ :S71),aB,aC⟩ :S86) [.string aw,.int .i64 ax,.int .i64 ay,.int .i64 az,.int .i64 aA,.string aB,.string aC]from (k86_mkM _ _ _ (⟨aw,(⟨ax,ay,az,aA⟩ :S71),aB,aC⟩ :S86))) (Reps.c7 (show Kd.M k86 _ _ _ (⟨aD,(⟨aE,aF,aG,aH⟩ :S71),aI,aJ⟩ :S86) [.string aD,.int .i64 aE,.int .i64 aF,.int .i64 aG,.int .i64 aH,.string aI,.string aJ]from (k86_mkM _ _ _ (⟨aD,(⟨aE,aF,aG,aH⟩ :S71),aI,aJ⟩ :S86))) (Reps.none _ _))))
  intro eo ep aO hb hg_ hnew_;clear hg_ hnew_
  (first|rw[← a9.out]at aO|(simp only[Int.reduceToNat]at aO;rw[← a9.out]at aO))
  have bY:=rL aO;replace d:=kB d hb;replace HB:=sB hb;clear hb aO
  refine hK.out _ _ qh14x0 (fun hHeld=>?_)
  clear hK K;refine normZ (some 25) ?_
  refine pZ 10 4 2047 ?_
  refine done_ (done_of HT_.out (by kernel_rfl)) ?_
  try go_wp2
  go_ret;exact⟨_,rE,mR bY,cB⟩
end Go.Proofs.YtpbalojiaghfhaaGreat.PFnCompilesTold
