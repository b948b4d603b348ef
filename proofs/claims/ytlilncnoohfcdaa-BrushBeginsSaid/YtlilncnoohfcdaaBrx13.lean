
import Derived.Test.YtlilncnoohfcdaaDax0
import Derived.Test.YtlilncnoohfcdaaDax11
import Derived.Test.YtlilncnoohfcdaaDax14
import Derived.Test.YtlilncnoohfcdaaBrx0
import Derived.Test.YtlilncnoohfcdaaBrx12
namespace Go.Proofs.Ytlilncnoohfcdaa.Br
open Go.RowKit Go.Proofs.YtlilncnoohfcdaaW.PrintWords Go.Proofs.YtlilncnoohfcdaaW.PrintLast Go.Proofs.YtlilncnoohfcdaaW.PrintMore Go.Proofs.Ytlilncnoohfcdaa.Da
attribute [local go_sem] zbr zbu zbD zbH zbq zbp zbv zbt   
set_option linter.unusedVariables false
set_option linter.unusedSimpArgs false
/-! ### imageeditorref07_At: function 148 -/
def za2.l0:Nat→List (S135)→Int→Int→Option (Int)
 | 0,_,_,_=>none
 | k+1,x0,x1,x5=>if x5<(x0.length:Int) then (if 0≤x5 then (if x1<((zat x0 x5).f0) then (if 0≤(wrap64 (x5 - 1)) then (if (wrap64 (x5 - 1))<(x0.length:Int) then ((zas.f k (wrap64 ((wrap64 (((zat x0 x5).f1) - ((zat x0 (wrap64 (x5 - 1))).f1)))*(wrap64 (x1 - ((zat x0 (wrap64 (x5 - 1))).f0))))) (wrap64 (((zat x0 x5).f0) - ((zat x0 (wrap64 (x5 - 1))).f0)))).bind fun k4=>(some (wrap64 (((zat x0 (wrap64 (x5 - 1))).f1)+k4)))) else (none)) else (none)) else (za2.l0 k x0 x1 (wrap64 (x5+1)))) else (none)) else (if 0≤(wrap64 ((x0.length:Int) - 1)) then (if (wrap64 ((x0.length:Int) - 1))<(x0.length:Int) then (some ((zat x0 (wrap64 ((x0.length:Int) - 1))).f1)) else (none)) else (none))
def za2.f (k:Nat) (l0:List (S135)) (a1:Int):Option (Int):=(zaH.f k l0).bind fun d9=>(if d9=0 then (if 0<(l0.length:Int) then (if a1≤((zat l0 0).f0) then (some ((zat l0 0).f1)) else (za2.l0 k l0 a1 1)) else (none)) else ((zbm.f a1).bind fun g9=>(some g9)))
def za2.T9:Bool×List (List Nat×List Nat):=(true,[([],[]),([],[]),([1],[1]),([0,2],[0,2]),([3],[3]),([4],[4]),([],[]),([],[]),([6,7],[6,7]),([8],[8]),([9],[9]),([],[]),([],[]),([12],[12]),([11,13],[11,13]),([14],[14]),([15],[15]),([10,16],[10,16]),([],[]),([],[]),([],[]),([20],[20]),([19,21],[19,21]),([22],[22]),([23],[23]),([18,24],[18,24]),([17,25],[17,25]),([],[]),([],[]),([27,28],[27,28]),([29],[29]),([30],[30]),([],[]),([],[]),([33],[33]),([32,34],[32,34]),([35],[35]),([36],[36]),([31,37],[31,37]),([26,38],[26,38]),([5,39],[5,39]),([40,39,0,1,2,3,4,5,6,7,8,9,10,11,12,13,14,15,16,17,18,19,20,21,22,23,24,25,26,27,28,29,30,31,32,33,34,35,36,37,38,39,40],[40])])
def za2.B9:List Nat:=[0,0,2,7,15,31,0,0,192,448,960,0,0,4096,14336,30720,63488,131008,0,0,0,1048576,3670016,7864320,16252928,33292288,67108800,0,0,402653184,939524096,2013265920,0,0,8589934592,30064771072,64424509440,133143986176,274743689216,549755813824,1099511627775,2199023255551]
theorem za2.tab9:rtab .any (opsOf Try.f148 9)=za2.T9:=by kernel_rfl
theorem za2.bits9:zbE za2.T9.2 za2.B9=true:=by kernel_rfl
set_option maxHeartbeats 8000000 in
set_option maxRecDepth 100000 in
theorem za2.calls (k:Nat) (A0:Option Addr) (c0:Nat) (l0:List (S135)) (a1:Int) (r:Int) (w:World) (hr0:Kd.C k135 w A0 l0.length l0) (hc0:l0.length≤c0) (h:za2.f k l0 a1=some r) :
 Calls Try.prog 148 #[.slice A0 l0.length c0,.int .i64 a1] w fun e w'=>e = .returned (.int .i64 r)∧Below w.heap.size w w':=by
 have HR0:=zaa.mk hr0
 have HC0:=zaa.mk hc0
 clear hr0 hc0
 have HB:=zaa.mk (Below.refl w.heap.size w)
 have H:((zaH.f k l0).bind fun d9=>(if d9=0 then (if 0<(l0.length:Int) then (if a1≤((zat l0 0).f0) then (some ((zat l0 0).f1)) else (za2.l0 k l0 a1 1)) else (none)) else ((zbm.f a1).bind fun g9=>(some g9))))=some r:=h
 clear h
 obtain ⟨d9,A3,H⟩:=zob H
 replace H:(if d9=0 then (if 0<(l0.length:Int) then (if a1≤((zat l0 0).f0) then (some ((zat l0 0).f1)) else (za2.l0 k l0 a1 1)) else (none)) else ((zbm.f a1).bind fun g9=>(some g9)))=some r:=H
 by_cases c4:d9=0
 ·rw [if_pos c4] at H
  have c4b0:(d9==0)=true:=beq_iff_eq.mpr c4
  have c4b1:(d9 != 0)=false:=bne_eq_false_iff_eq.mpr c4
  clear c4
  by_cases c5:0<(l0.length:Int)
  ·rw [if_pos c5] at H
   have c5b0:decide (0<(l0.length:Int))=true:=decide_eq_true c5
   have c5b1:decide (0<l0.length)=true:=decide_eq_true (by omega)
   clear c5
   by_cases c6:a1≤((zat l0 0).f0)
   ·rw [if_pos c6] at H
    have c6b0:decide (a1≤((zat l0 0).f0))=true:=decide_eq_true c6
    clear c6
    obtain rfl:=Option.some.inj H
    go_enter Try.func148,Try.ntmps148
    go_wp2_with (first|((with_reducible refine zah (f:=107) rfl ?_);refine zgl 7 Try.func107 #[.slice A0 l0.length c0] ?_;(with_reducible refine (zaH.calls k _ _ l0 d9 _ ?side1 ?side2 A3.out).mono ?_);(case side1=>repeat (first|exact HR0.out|(with_reducible refine Kd.C_alloc ?_ _)|(with_reducible refine Kd.C_drewN ?_ _)|(with_reducible refine Kd.C_drew ?_)));(case side2=>exact HC0.out);rintro e w' ⟨rfl,⟨nd,rfl⟩⟩;refine ⟨_,rfl,?_⟩;have p337:0≤(0:Int):=(by omega);have q337:0<(l0.length:Int):=of_decide_eq_true (by first|(with_reducible assumption)|assumption);obtain ⟨b9,e337,d6,d7⟩:=zbV HR0.out 0 p337 q337;cases e337;have qi337:(0<l0.length)=True:=eq_true (by omega);(try rw [show ((0:Int)).toNat=0 from rfl] at d6);(try rw [show 0*2=0 from rfl] at d6);(try rw [Addr.add_zero'] at d6);(try rw [show ((0:Int)).toNat=0 from rfl] at d7);(try rw [show 0*2=0 from rfl] at d7);(try rw [Addr.add_zero'] at d7);replace p337:=eq_true p337;replace q337:=eq_true q337;have p338:0≤(0:Int):=(by omega);have q338:0<(l0.length:Int):=of_decide_eq_true (by first|(with_reducible assumption)|assumption);obtain ⟨n9,e338,i3,i4⟩:=zbV HR0.out 0 p338 q338;obtain rfl:b9=n9:=(by injection e338);have qi338:(0<l0.length)=True:=eq_true (by omega);(try rw [show ((0:Int)).toNat=0 from rfl] at i3);(try rw [show 0*2=0 from rfl] at i3);(try rw [Addr.add_zero'] at i3);(try rw [show ((0:Int)).toNat=0 from rfl] at i4);(try rw [show 0*2=0 from rfl] at i4);(try rw [Addr.add_zero'] at i4);replace p338:=eq_true p338;replace q338:=eq_true q338))
    go_ret
    exact zG
   ·rw [if_neg c6] at H
    have c6b0:decide (a1≤((zat l0 0).f0))=false:=decide_eq_false c6
    clear c6
    have H':=zaa.mk H
    clear H
    go_enter Try.func148,Try.ntmps148
    go_wp2_with (first|((with_reducible refine zah (f:=107) rfl ?_);refine zgl 7 Try.func107 #[.slice A0 l0.length c0] ?_;(with_reducible refine (zaH.calls k _ _ l0 d9 _ ?side1 ?side2 A3.out).mono ?_);(case side1=>repeat (first|exact HR0.out|(with_reducible refine Kd.C_alloc ?_ _)|(with_reducible refine Kd.C_drewN ?_ _)|(with_reducible refine Kd.C_drew ?_)));(case side2=>exact HC0.out);rintro e w' ⟨rfl,⟨nd,rfl⟩⟩;refine ⟨_,rfl,?_⟩;have p337:0≤(0:Int):=(by omega);have q337:0<(l0.length:Int):=of_decide_eq_true (by first|(with_reducible assumption)|assumption);obtain ⟨b9,e337,d6,d7⟩:=zbV HR0.out 0 p337 q337;cases e337;have qi337:(0<l0.length)=True:=eq_true (by omega);(try rw [show ((0:Int)).toNat=0 from rfl] at d6);(try rw [show 0*2=0 from rfl] at d6);(try rw [Addr.add_zero'] at d6);(try rw [show ((0:Int)).toNat=0 from rfl] at d7);(try rw [show 0*2=0 from rfl] at d7);(try rw [Addr.add_zero'] at d7);replace p337:=eq_true p337;replace q337:=eq_true q337))
    go_loopg [5] k (fun kq v5 w'=>∃ (x5_1:Int),v5 = .int .i64 x5_1∧zaa (za2.l0 kq l0 a1 x5_1=some r)∧zaa (kq≤k)∧zaa (Below w.heap.size w w'))
    case atStart=>exact ⟨(1),zF,H',⟨Nat.le_refl _⟩,⟨by repeat (first|(with_reducible first|exact HB.out|apply zan|apply zaj|apply zai)|exact HB.out)⟩⟩
    case round=>
     clear H'
     try clear c1
     try clear p2
     try clear p3
     try clear q3
     try clear hx3
     try clear qi3
     try clear c4
     try clear c4b0
     try clear c4b1
     try clear c5
     try clear c5b0
     try clear c5b1
     try clear c6
     try clear c6b0
     try clear d6
     try clear d7
     try clear i3
     try clear i4
     try clear p337
     try clear p338
     try clear q337
     try clear q338
     obtain ⟨x5_1,rfl,HA,o9,HB⟩:=hrel
     cases gk with
     | zero=>exact absurd HA.out (by simp [za2.l0])
     | succ k1=>
      have H:=HA.out
      clear HA
      simp only [za2.l0] at H
      by_cases c7:x5_1<(l0.length:Int)
      ·rw [if_pos c7] at H
       have c7b0:decide (x5_1<(l0.length:Int))=true:=decide_eq_true c7
       clear c7
       by_cases c8:0≤x5_1
       ·rw [if_pos c8] at H
        have c8b0:decide (0≤x5_1)=true:=decide_eq_true c8
        clear c8
        by_cases c9:a1<((zat l0 x5_1).f0)
        ·rw [if_pos c9] at H
         have c9b0:decide (a1<((zat l0 x5_1).f0))=true:=decide_eq_true c9
         clear c9
         obtain ⟨b8,hji10⟩ : ∃ j_:Int,(wrap64 (x5_1 - 1))=j_:=⟨_,rfl⟩
         replace H:(if 0≤(b8) then (if (b8)<(l0.length:Int) then ((zas.f k1 (wrap64 ((wrap64 (((zat l0 x5_1).f1) - ((zat l0 (b8)).f1)))*(wrap64 (a1 - ((zat l0 (b8)).f0))))) (wrap64 (((zat l0 x5_1).f0) - ((zat l0 (b8)).f0)))).bind fun k4=>(some (wrap64 (((zat l0 (b8)).f1)+k4)))) else (none)) else (none))=some r:=by first|(rw [hji10] at H;exact H)|(simp only [hji10] at H ⊢;exact H)
         have hji10w:(IntKind.i64.wrap (x5_1 - 1))=b8:=(zbY _).trans hji10
         by_cases c11:0≤(b8)
         ·rw [if_pos c11] at H
          have c11b0:decide (0≤(b8))=true:=decide_eq_true c11
          clear c11
          by_cases c12:(b8)<(l0.length:Int)
          ·rw [if_pos c12] at H
           have c12b0:decide ((b8)<(l0.length:Int))=true:=decide_eq_true c12
           clear c12
           obtain ⟨k4,A13,H⟩:=zob H
           replace H:(some (wrap64 (((zat l0 (b8)).f1)+k4)))=some r:=H
           obtain rfl:=Option.some.inj H
           have p339:0≤(x5_1:Int):=of_decide_eq_true (by first|(with_reducible assumption)|assumption)
           have q339:x5_1<(l0.length:Int):=of_decide_eq_true (by first|(with_reducible assumption)|assumption)
           obtain ⟨n7,e339,e8,e9⟩:=zbV HR0.out x5_1 p339 q339
           obtain rfl:b9=n7:=(by injection e339)
           replace e8:=zad HB.out e8
           replace e9:=zad HB.out e9
           replace p339:=eq_true p339
           replace q339:=eq_true q339
           try go_wp2
           replace HB:=zaa.mk (zai HB.out)
           have p340:0≤((b8):Int):=of_decide_eq_true (by first|(with_reducible assumption)|assumption)
           have q340:(b8)<(l0.length:Int):=of_decide_eq_true (by first|(with_reducible assumption)|assumption)
           obtain ⟨o2,e340,i5,i6⟩:=zbV HR0.out (b8) p340 q340
           have l6:=i6
           have l7:=i5
           obtain rfl:b9=o2:=(by injection e340)
           replace i5:=zad HB.out i5
           replace i6:=zad HB.out i6
           replace p340:=eq_true p340
           replace q340:=eq_true q340
           have p341:0≤(x5_1:Int):=of_decide_eq_true (by first|(with_reducible assumption)|assumption)
           have q341:x5_1<(l0.length:Int):=of_decide_eq_true (by first|(with_reducible assumption)|assumption)
           obtain ⟨o3,e341,i7,i8⟩:=zbV HR0.out x5_1 p341 q341
           have l8:=i8
           have l9:=i7
           obtain rfl:b9=o3:=(by injection e341)
           replace i7:=zad HB.out i7
           replace i8:=zad HB.out i8
           replace p341:=eq_true p341
           replace q341:=eq_true q341
           have p342:0≤((b8):Int):=of_decide_eq_true (by first|(with_reducible assumption)|assumption)
           have q342:(b8)<(l0.length:Int):=of_decide_eq_true (by first|(with_reducible assumption)|assumption)
           obtain ⟨o4,e342,i9,j2⟩:=zbV HR0.out (b8) p342 q342
           have m5:=j2
           have m6:=i9
           obtain rfl:b9=o4:=(by injection e342)
           replace i9:=zad HB.out i9
           replace j2:=zad HB.out j2
           replace p342:=eq_true p342
           replace q342:=eq_true q342
           have p343:0≤((b8):Int):=of_decide_eq_true (by first|(with_reducible assumption)|assumption)
           have q343:(b8)<(l0.length:Int):=of_decide_eq_true (by first|(with_reducible assumption)|assumption)
           obtain ⟨o5,e343,j3,j4⟩:=zbV HR0.out (b8) p343 q343
           have m7:=j4
           have m8:=j3
           obtain rfl:b9=o5:=(by injection e343)
           replace j3:=zad HB.out j3
           replace j4:=zad HB.out j4
           replace p343:=eq_true p343
           replace q343:=eq_true q343
           have p344:0≤(x5_1:Int):=of_decide_eq_true (by first|(with_reducible assumption)|assumption)
           have q344:x5_1<(l0.length:Int):=of_decide_eq_true (by first|(with_reducible assumption)|assumption)
           obtain ⟨o6,e344,j5,j6⟩:=zbV HR0.out x5_1 p344 q344
           have m9:=j6
           have n0:=j5
           obtain rfl:b9=o6:=(by injection e344)
           replace j5:=zad HB.out j5
           replace j6:=zad HB.out j6
           replace p344:=eq_true p344
           replace q344:=eq_true q344
           have p345:0≤((b8):Int):=of_decide_eq_true (by first|(with_reducible assumption)|assumption)
           have q345:(b8)<(l0.length:Int):=of_decide_eq_true (by first|(with_reducible assumption)|assumption)
           obtain ⟨o7,e345,j7,j8⟩:=zbV HR0.out (b8) p345 q345
           have n3:=j8
           have n4:=j7
           obtain rfl:b9=o7:=(by injection e345)
           replace j7:=zad HB.out j7
           replace j8:=zad HB.out j8
           replace p345:=eq_true p345
           replace q345:=eq_true q345
           refine zbA (n:=42) (S:=fun w'=>w'.cell? (b9.add (((b8)).toNat*2))=some (.int .i64 ((zat l0 (b8)).f0))∧w'.cell? ⟨(b9.add (((b8)).toNat*2)).block,(b9.add (((b8)).toNat*2)).off+1,none⟩=some (.int .i64 ((zat l0 (b8)).f1))∧w'.cell? (b9.add ((x5_1).toNat*2))=some (.int .i64 ((zat l0 x5_1).f0))∧w'.cell? ⟨(b9.add ((x5_1).toNat*2)).block,(b9.add ((x5_1).toNat*2)).off+1,none⟩=some (.int .i64 ((zat l0 x5_1).f1))∧w'.cell? (b9.add (((b8)).toNat*2))=some (.int .i64 ((zat l0 (b8)).f0))∧w'.cell? ⟨(b9.add (((b8)).toNat*2)).block,(b9.add (((b8)).toNat*2)).off+1,none⟩=some (.int .i64 ((zat l0 (b8)).f1))∧w'.cell? (b9.add (((b8)).toNat*2))=some (.int .i64 ((zat l0 (b8)).f0))∧w'.cell? ⟨(b9.add (((b8)).toNat*2)).block,(b9.add (((b8)).toNat*2)).off+1,none⟩=some (.int .i64 ((zat l0 (b8)).f1))∧w'.cell? (b9.add ((x5_1).toNat*2))=some (.int .i64 ((zat l0 x5_1).f0))∧w'.cell? ⟨(b9.add ((x5_1).toNat*2)).block,(b9.add ((x5_1).toNat*2)).off+1,none⟩=some (.int .i64 ((zat l0 x5_1).f1))∧w'.cell? (b9.add (((b8)).toNat*2))=some (.int .i64 ((zat l0 (b8)).f0))∧w'.cell? ⟨(b9.add (((b8)).toNat*2)).block,(b9.add (((b8)).toNat*2)).off+1,none⟩=some (.int .i64 ((zat l0 (b8)).f1))) (ds:=[]) #[false,false,false,false,false,false,false,false,false,false,false,false,false,false,false,false,false,false,false,false,false,false,false,false,false,false,false,false,false,false,false,false,false,false,false,false,false,false,false,false,false,false] (by kernel_rfl) rfl rfl ⟨(zad HB.out l7),(zad HB.out l6),(zad HB.out l9),(zad HB.out l8),(zad HB.out m6),(zad HB.out m5),(zad HB.out m8),(zad HB.out m7),(zad HB.out n0),(zad HB.out m9),(zad HB.out n4),(zad HB.out n3)⟩ (fun hHeld=>?_);refine zbn za2.tab9 za2.bits9 (fun HT_ HW_=>?_)
           generalize wr.drew=w14 at HB i5 i6 i7 i8 i9 j2 j3 j4 j5 j6 j7 j8 hHeld ⊢
           refine zpu 0 34 HT_.out ?_
           refine zpu 1 35 HT_.out ?_
           refine zpu 2 36 HT_.out ?_
           refine zpu 3 37 HT_.out ?_
           refine zpu 4 38 HT_.out ?_
           refine zpu 6 40 HT_.out ?_
           refine zpu 7 41 HT_.out ?_
           refine zpu 8 42 HT_.out ?_
           refine zpu 9 43 HT_.out ?_
           refine zpu 11 45 HT_.out ?_
           refine zpu 12 46 HT_.out ?_
           refine zpu 13 47 HT_.out ?_
           refine zpu 14 48 HT_.out ?_
           refine zpu 15 49 HT_.out ?_
           refine zpu 18 52 HT_.out ?_
           refine zpu 19 53 HT_.out ?_
           refine zpu 20 54 HT_.out ?_
           refine zpu 21 55 HT_.out ?_
           refine zpu 22 56 HT_.out ?_
           refine zpu 23 57 HT_.out ?_
           refine zpu 27 61 HT_.out ?_
           refine zpu 28 62 HT_.out ?_
           refine zpu 29 63 HT_.out ?_
           refine zpu 30 64 HT_.out ?_
           refine zpu 32 66 HT_.out ?_
           refine zpu 33 67 HT_.out ?_
           refine zpu 34 68 HT_.out ?_
           refine zpu 35 69 HT_.out ?_
           refine zpu 36 70 HT_.out ?_
           refine ztk 5 39 HT_.out HW_.out hHeld ?_
           refine ztk 10 44 HT_.out HW_.out hHeld ?_
           refine ztk 16 50 HT_.out HW_.out hHeld ?_
           refine zpu 17 51 HT_.out ?_
           refine ztk 24 58 HT_.out HW_.out hHeld ?_
           refine zpu 25 59 HT_.out ?_
           refine zpu 26 60 HT_.out ?_
           refine ztk 31 65 HT_.out HW_.out hHeld ?_
           refine ztk 37 71 HT_.out HW_.out hHeld ?_
           refine zpu 38 72 HT_.out ?_
           refine zon 39 (some 73) HT_.out (fun K hK=>?_)
           refine goes_ Try.func68 (by kernel_rfl) rfl #[.int .i64 (wrap64 ((wrap64 (((zat l0 x5_1).f1) - ((zat l0 (b8)).f1)))*(wrap64 (a1 - ((zat l0 (b8)).f0))))),.int .i64 (wrap64 (((zat l0 x5_1).f0) - ((zat l0 (b8)).f0)))] (by rfl) rfl rfl (by (try simp only [List.map_toArray,List.map_cons,List.map_nil]);first|done|(simp only [hji10];rfl)|rfl|(simp only [List.length_drop,List.length_take];rfl)) ?_
           with_reducible refine (zas.calls k1 (wrap64 ((wrap64 (((zat l0 x5_1).f1) - ((zat l0 (b8)).f1)))*(wrap64 (a1 - ((zat l0 (b8)).f0))))) (wrap64 (((zat l0 x5_1).f0) - ((zat l0 (b8)).f0))) k4 _ A13.out).mono ?_
           rintro e w' ⟨rfl,⟨nd,rfl⟩⟩
           refine ⟨_,rfl,?_⟩
           refine hK.out _ _ ⟨(zad HB.out l7),(zad HB.out l6),(zad HB.out l9),(zad HB.out l8),(zad HB.out m6),(zad HB.out m5),(zad HB.out m8),(zad HB.out m7),(zad HB.out n0),(zad HB.out m9),(zad HB.out n4),(zad HB.out n3)⟩ (fun hHeld=>?_)
           clear hK K
           refine znm ?_
           refine zpu 40 74 HT_.out ?_
           refine zpu 41 4 HT_.out ?_
           refine zbT (zbB HT_.out (by kernel_rfl)) ?_
           try go_wp2
           go_ret
           exact ⟨by first|rfl|(simp [zaK,zaL] <;> rfl)|(simp only [← hji10];first|rfl|(simp [zaK,zaL] <;> rfl))|(simp [*,zaK,zaL] <;> rfl),by repeat (first|(with_reducible first|exact HB.out|apply zan|apply zaj|apply zai)|exact HB.out)⟩
          ·rw [if_neg c12] at H
           exact absurd H (by simp)
         ·rw [if_neg c11] at H
          exact absurd H (by simp)
        ·rw [if_neg c9] at H
         have c9b0:decide (a1<((zat l0 x5_1).f0))=false:=decide_eq_false c9
         clear c9
         have H':=zaa.mk H
         clear H
         have p339:0≤(x5_1:Int):=of_decide_eq_true (by first|(with_reducible assumption)|assumption)
         have q339:x5_1<(l0.length:Int):=of_decide_eq_true (by first|(with_reducible assumption)|assumption)
         obtain ⟨n7,e339,e8,e9⟩:=zbV HR0.out x5_1 p339 q339
         obtain rfl:b9=n7:=(by injection e339)
         replace e8:=zad HB.out e8
         replace e9:=zad HB.out e9
         replace p339:=eq_true p339
         replace q339:=eq_true q339
         go_wp2
         go_roundg k1
         case measure=>have:=o9.out;omega
         case rel=>exact ⟨(wrap64 (x5_1+1)),zF,H',⟨by have:=o9.out;omega⟩,⟨by repeat (first|(with_reducible first|exact HB.out|apply zan|apply zaj|apply zai)|exact HB.out)⟩⟩
       ·rw [if_neg c8] at H
        exact absurd H (by simp)
      ·rw [if_neg c7] at H
       have c7b0:decide (x5_1<(l0.length:Int))=false:=decide_eq_false c7
       clear c7
       obtain ⟨e7,hji15⟩ : ∃ j_:Int,(wrap64 ((l0.length:Int) - 1))=j_:=⟨_,rfl⟩
       replace H:(if 0≤(e7) then (if (e7)<(l0.length:Int) then (some ((zat l0 (e7)).f1)) else (none)) else (none))=some r:=by first|(rw [hji15] at H;exact H)|(simp only [hji15] at H ⊢;exact H)
       have hji15w:(IntKind.i64.wrap ((l0.length:Int) - 1))=e7:=(zbY _).trans hji15
       by_cases c16:0≤(e7)
       ·rw [if_pos c16] at H
        have c16b0:decide (0≤(e7))=true:=decide_eq_true c16
        clear c16
        by_cases c17:(e7)<(l0.length:Int)
        ·rw [if_pos c17] at H
         have c17b0:decide ((e7)<(l0.length:Int))=true:=decide_eq_true c17
         clear c17
         obtain rfl:=Option.some.inj H
         have p347:0≤((e7):Int):=of_decide_eq_true (by first|(with_reducible assumption)|assumption)
         have q347:(e7)<(l0.length:Int):=of_decide_eq_true (by first|(with_reducible assumption)|assumption)
         obtain ⟨o8,e347,n5,n6⟩:=zbV HR0.out (e7) p347 q347
         obtain rfl:b9=o8:=(by injection e347)
         replace n5:=zad HB.out n5
         replace n6:=zad HB.out n6
         replace p347:=eq_true p347
         replace q347:=eq_true q347
         go_wp2
         go_ret
         exact ⟨by first|rfl|(simp [zaK,zaL] <;> rfl)|(simp only [← hji15];first|rfl|(simp [zaK,zaL] <;> rfl))|(simp [*,zaK,zaL] <;> rfl),by repeat (first|(with_reducible first|exact HB.out|apply zan|apply zaj|apply zai)|exact HB.out)⟩
        ·rw [if_neg c17] at H
         exact absurd H (by simp)
       ·rw [if_neg c16] at H
        exact absurd H (by simp)
  ·rw [if_neg c5] at H
   exact absurd H (by simp)
 ·rw [if_neg c4] at H
  have c4b0:(d9==0)=false:=beq_eq_false_iff_ne.mpr c4
  have c4b1:(d9 != 0)=true:=bne_iff_ne.mpr c4
  obtain ⟨g9,A18,H⟩:=zob H
  replace H:(some g9)=some r:=H
  obtain rfl:=Option.some.inj H
  go_enter Try.func148,Try.ntmps148
  go_wp2_with (first|((with_reducible refine zah (f:=107) rfl ?_);refine zgl 7 Try.func107 #[.slice A0 l0.length c0] ?_;(with_reducible refine (zaH.calls k _ _ l0 d9 _ ?side1 ?side2 A3.out).mono ?_);(case side1=>repeat (first|exact HR0.out|(with_reducible refine Kd.C_alloc ?_ _)|(with_reducible refine Kd.C_drewN ?_ _)|(with_reducible refine Kd.C_drew ?_)));(case side2=>exact HC0.out);rintro e w' ⟨rfl,⟨nd,rfl⟩⟩;refine ⟨_,rfl,?_⟩)|((with_reducible refine zah (f:=85) rfl ?_);refine zgl 10 Try.func85 #[.int .i64 a1] ?_;(with_reducible refine (zbm.calls a1 g9 _ A18.out).mono ?_);rintro e w19 ⟨rfl,hb⟩;refine ⟨_,rfl,?_⟩;replace HB:=zaa.mk (zae (zL HB.out) hb);(try clear hb)))
  go_ret
  exact zG
def zaY.f (a0:Int):Option (Int):=some (mn (mx a0 0) 65535)
set_option maxHeartbeats 8000000 in
set_option maxRecDepth 100000 in
theorem zaY.calls (a0:Int) (r:Int) (w:World) (h:zaY.f a0=some r) :
 Calls Try.prog 126 #[.int .i64 a0] w fun e w'=>e = .returned (.int .i64 r)∧Below w.heap.size w w':=by
 have HB:=zaa.mk (Below.refl w.heap.size w)
 have H:(some (mn (mx a0 0) 65535))=some r:=h
 clear h
 obtain ⟨l4,hji2⟩ : ∃ j_:Int,(mx a0 0)=j_:=⟨_,rfl⟩
 replace H:(some (mn (l4) 65535))=some r:=by first|(rw [hji2] at H;exact H)|(simp only [hji2] at H ⊢;exact H)
 (try (have hji2l:0≤l4:=by (rw [← hji2];unfold mx;(repeat' split) <;> omega)))
 (try (have hji2m:0≤l4:=by omega))
 have hji2_:(if a0<0 then 0 else a0)=l4:=hji2
 obtain ⟨p7,hji3⟩ : ∃ j_:Int,(mn (l4) 65535)=j_:=⟨_,rfl⟩
 replace H:(some p7)=some r:=by first|(rw [hji3] at H;exact H)|(simp only [hji3] at H ⊢;exact H)
 have hji3_:(if 65535<(l4) then 65535 else (l4))=p7:=hji3
 obtain rfl:=Option.some.inj H
 go_enter Try.func126,Try.ntmps126
 go_wp2
 go_ret
 exact ⟨by first|rfl|(simp [zaK,zaL] <;> rfl)|(simp only [← hji2,← hji3];first|rfl|(simp [zaK,zaL] <;> rfl))|(simp [*,zaK,zaL] <;> rfl),by repeat (first|(with_reducible first|exact HB.out|apply zan|apply zaj|apply zai)|exact HB.out)⟩
def zb8.f (a0:Int):Option (Int):=some (Go.bits .xor .u64 (IntKind.u64.wrap ((Go.bits .xor .u64 (IntKind.u64.wrap ((Go.bits .xor .u64 a0 (a0 / 1073741824))*13787848793156543929)) ((IntKind.u64.wrap ((Go.bits .xor .u64 a0 (a0 / 1073741824))*13787848793156543929)) / 134217728))*10723151780598845931)) ((IntKind.u64.wrap ((Go.bits .xor .u64 (IntKind.u64.wrap ((Go.bits .xor .u64 a0 (a0 / 1073741824))*13787848793156543929)) ((IntKind.u64.wrap ((Go.bits .xor .u64 a0 (a0 / 1073741824))*13787848793156543929)) / 134217728))*10723151780598845931)) / 2147483648))
set_option maxHeartbeats 8000000 in
set_option maxRecDepth 100000 in
theorem zb8.calls (a0:Int) (r:Int) (w:World) (h:zb8.f a0=some r) :
 Calls Try.prog 163 #[.int .u64 a0] w fun e w'=>e = .returned (.int .u64 r)∧zaS w w':=by
 have H:(some (Go.bits .xor .u64 (IntKind.u64.wrap ((Go.bits .xor .u64 (IntKind.u64.wrap ((Go.bits .xor .u64 a0 (a0 / 1073741824))*13787848793156543929)) ((IntKind.u64.wrap ((Go.bits .xor .u64 a0 (a0 / 1073741824))*13787848793156543929)) / 134217728))*10723151780598845931)) ((IntKind.u64.wrap ((Go.bits .xor .u64 (IntKind.u64.wrap ((Go.bits .xor .u64 a0 (a0 / 1073741824))*13787848793156543929)) ((IntKind.u64.wrap ((Go.bits .xor .u64 a0 (a0 / 1073741824))*13787848793156543929)) / 134217728))*10723151780598845931)) / 2147483648)))=some r:=h
 clear h
 obtain rfl:=Option.some.inj H
 go_enter Try.func163,Try.ntmps163
 go_wp2
 go_ret
 exact zH
def zbU.f (a0:Int) (a1:Int) (a2:Int):Option (Int):=(zb8.f (Go.bits .xor .u64 (Go.bits .xor .u64 (IntKind.u64.wrap (a0)) (IntKind.u64.wrap ((IntKind.u64.wrap (a1))*11400714819323198485))) (IntKind.u64.wrap ((IntKind.u64.wrap (a2))*14029467366897019727)))).bind fun k5=>(some ((k5 / 4294967296) % 4294967296))
set_option maxHeartbeats 8000000 in
set_option maxRecDepth 100000 in
theorem zbU.calls (a0:Int) (a1:Int) (a2:Int) (r:Int) (w:World) (h:zbU.f a0 a1 a2=some r) :
 Calls Try.prog 150 #[.int .i64 a0,.int .i64 a1,.int .i64 a2] w fun e w'=>e = .returned (.int .u32 r)∧zaS w w':=by
 have H:((zb8.f (Go.bits .xor .u64 (Go.bits .xor .u64 (IntKind.u64.wrap (a0)) (IntKind.u64.wrap ((IntKind.u64.wrap (a1))*11400714819323198485))) (IntKind.u64.wrap ((IntKind.u64.wrap (a2))*14029467366897019727)))).bind fun k5=>(some ((k5 / 4294967296) % 4294967296)))=some r:=h
 clear h
 obtain ⟨k5,A4,H⟩:=zob H
 replace H:(some ((k5 / 4294967296) % 4294967296))=some r:=H
 obtain rfl:=Option.some.inj H
 go_enter Try.func150,Try.ntmps150
 go_wp2_with (first|((with_reducible refine zah (f:=163) rfl ?_);refine zgl 19 Try.func163 #[.int .u64 (Go.bits .xor .u64 (Go.bits .xor .u64 (IntKind.u64.wrap (a0)) (IntKind.u64.wrap ((IntKind.u64.wrap (a1))*11400714819323198485))) (IntKind.u64.wrap ((IntKind.u64.wrap (a2))*14029467366897019727)))] ?_;(with_reducible refine (zb8.calls (Go.bits .xor .u64 (Go.bits .xor .u64 (IntKind.u64.wrap (a0)) (IntKind.u64.wrap ((IntKind.u64.wrap (a1))*11400714819323198485))) (IntKind.u64.wrap ((IntKind.u64.wrap (a2))*14029467366897019727))) k5 _ A4.out).mono ?_);rintro e w' ⟨rfl,⟨nd,rfl⟩⟩;refine ⟨_,rfl,?_⟩))
 go_ret
 exact zH
def zb4.f (a0:Int) (a1:Int) (a2:Int):Option (Int):=(zbU.f a0 a1 a2).bind fun k6=>(some ((Int.tdiv k6 65537) % 4294967296))
set_option maxHeartbeats 8000000 in
set_option maxRecDepth 100000 in
theorem zb4.calls (a0:Int) (a1:Int) (a2:Int) (r:Int) (w:World) (h:zb4.f a0 a1 a2=some r) :
 Calls Try.prog 162 #[.int .i64 a0,.int .i64 a1,.int .i64 a2] w fun e w'=>e = .returned (.int .i64 r)∧zaS w w':=by
 have H:((zbU.f a0 a1 a2).bind fun k6=>(some ((Int.tdiv k6 65537) % 4294967296)))=some r:=h
 clear h
 obtain ⟨k6,A4,H⟩:=zob H
 replace H:(some ((Int.tdiv k6 65537) % 4294967296))=some r:=H
 obtain rfl:=Option.some.inj H
 go_enter Try.func162,Try.ntmps162
 go_wp2_with (first|((with_reducible refine zah (f:=150) rfl ?_);refine zgl 10 Try.func150 #[.int .i64 a0,.int .i64 a1,.int .i64 a2] ?_;(with_reducible refine (zbU.calls a0 a1 a2 k6 _ A4.out).mono ?_);rintro e w' ⟨rfl,⟨nd,rfl⟩⟩;refine ⟨_,rfl,?_⟩))
 go_ret
 exact zH
def zb7.f (a0:Int) (f5:Int) (f6:Int) (e0:Int) (e5:Int) (f7:Int) (a2:Int) (a3:Int) (a4:Int):Option (Int):=if a0=1 then ((zaY.f e0).bind fun k7=>(some k7)) else (if a0=2 then ((zaY.f e5).bind fun k8=>(some k8)) else (if a0=3 then ((zaY.f a2).bind fun k9=>(some k9)) else (if a0=4 then ((zb4.f a4 a3 1).bind fun l3=>(some l3)) else (if a0=5 then (some (65535 - (mn 65535 (1024*(mn (mx 0 a3) 64))))) else (some 0)))))
set_option maxHeartbeats 8000000 in
set_option maxRecDepth 100000 in
theorem zb7.calls (a0:Int) (f5:Int) (f6:Int) (e0:Int) (e5:Int) (f7:Int) (a2:Int) (a3:Int) (a4:Int) (r:Int) (w:World) (h:zb7.f a0 f5 f6 e0 e5 f7 a2 a3 a4=some r) :
 Calls Try.prog 149 #[.int .i64 a0,.agg #[.int .i64 f5,.int .i64 f6,.int .i64 e0,.int .i64 e5,.int .i64 f7],.int .i64 a2,.int .i64 a3,.int .i64 a4] w fun e w'=>e = .returned (.int .i64 r)∧Below w.heap.size w w':=by
 have hu57:=Try.underlying57
 have HB:=zaa.mk (Below.refl w.heap.size w)
 have H:(if a0=1 then ((zaY.f e0).bind fun k7=>(some k7)) else (if a0=2 then ((zaY.f e5).bind fun k8=>(some k8)) else (if a0=3 then ((zaY.f a2).bind fun k9=>(some k9)) else (if a0=4 then ((zb4.f a4 a3 1).bind fun l3=>(some l3)) else (if a0=5 then (some (65535 - (mn 65535 (1024*(mn (mx 0 a3) 64))))) else (some 0))))))=some r:=h
 clear h
 by_cases c6:a0=1
 ·rw [if_pos c6] at H
  have c6b0:(a0==1)=true:=beq_iff_eq.mpr c6
  have c6b1:(a0 != 1)=false:=bne_eq_false_iff_eq.mpr c6
  clear c6
  obtain ⟨k7,A7,H⟩:=zob H
  replace H:(some k7)=some r:=H
  obtain rfl:=Option.some.inj H
  go_enter Try.func149,Try.ntmps149
  go_wp2_with (first|((with_reducible refine zaC (N:=6) rfl ?_);refine zbx (N:=6) #[.int .i64 f5,.int .i64 f6,.int .i64 e0,.int .i64 e5,.int .i64 f7] 57 ?_;intro d8 hg w8 hbox hb;have n0_:=zaa.mk (zae (zL HB.out) hb);have n1_:=zaa.mk (hbox);have n2_:=zaa.mk ((zS hg (zL HB.out):w.heap.size≤d8));have n3_:=n2_;clear HB;have HB:=n0_;have d5:=n1_;have k3:=n2_;have e6:=n3_;clear n0_ n1_ n2_ n3_;clear hb hbox hg;obtain ⟨t9,u3,u4,u5,u6⟩:=zD5 d5.out;obtain ⟨u7,u9,y5,y6,y7⟩:=zE5 d5.out)|((with_reducible refine zah (f:=126) rfl ?_);refine zgl 15 Try.func126 #[.int .i64 e0] ?_;(with_reducible refine (zaY.calls e0 k7 _ A7.out).mono ?_);rintro e w10 ⟨rfl,hb⟩;refine ⟨_,rfl,?_⟩;replace d5:=zaa.mk (zac (zB d5.out) hb);replace HB:=zaa.mk (zae (zL1 HB.out e6.out) hb);(try clear hb)))
  go_ret
  exact zG
 ·rw [if_neg c6] at H
  have c6b0:(a0==1)=false:=beq_eq_false_iff_ne.mpr c6
  have c6b1:(a0 != 1)=true:=bne_iff_ne.mpr c6
  by_cases c11:a0=2
  ·rw [if_pos c11] at H
   have c11b0:(a0==2)=true:=beq_iff_eq.mpr c11
   have c11b1:(a0 != 2)=false:=bne_eq_false_iff_eq.mpr c11
   clear c11
   obtain ⟨k8,A12,H⟩:=zob H
   replace H:(some k8)=some r:=H
   obtain rfl:=Option.some.inj H
   go_enter Try.func149,Try.ntmps149
   go_wp2_with (first|((with_reducible refine zaC (N:=6) rfl ?_);refine zbx (N:=6) #[.int .i64 f5,.int .i64 f6,.int .i64 e0,.int .i64 e5,.int .i64 f7] 57 ?_;intro d8 hg w13 hbox hb;have n0_:=zaa.mk (zae (zL HB.out) hb);have n1_:=zaa.mk (hbox);have n2_:=zaa.mk ((zS hg (zL HB.out):w.heap.size≤d8));have n3_:=n2_;clear HB;have HB:=n0_;have d5:=n1_;have k3:=n2_;have e6:=n3_;clear n0_ n1_ n2_ n3_;clear hb hbox hg;obtain ⟨p8,p9,s5,s6,s7⟩:=zD5 d5.out;obtain ⟨s8,s9,t6,t7,t8⟩:=zE5 d5.out)|((with_reducible refine zah (f:=126) rfl ?_);refine zgl 20 Try.func126 #[.int .i64 e5] ?_;(with_reducible refine (zaY.calls e5 k8 _ A12.out).mono ?_);rintro e w15 ⟨rfl,hb⟩;refine ⟨_,rfl,?_⟩;replace d5:=zaa.mk (zac (zB d5.out) hb);replace HB:=zaa.mk (zae (zL1 HB.out e6.out) hb);(try clear hb)))
   go_ret
   exact zG
  ·rw [if_neg c11] at H
   have c11b0:(a0==2)=false:=beq_eq_false_iff_ne.mpr c11
   have c11b1:(a0 != 2)=true:=bne_iff_ne.mpr c11
   by_cases c16:a0=3
   ·rw [if_pos c16] at H
    have c16b0:(a0==3)=true:=beq_iff_eq.mpr c16
    have c16b1:(a0 != 3)=false:=bne_eq_false_iff_eq.mpr c16
    clear c16
    obtain ⟨k9,A17,H⟩:=zob H
    replace H:(some k9)=some r:=H
    obtain rfl:=Option.some.inj H
    go_enter Try.func149,Try.ntmps149
    go_wp2_with (first|((with_reducible refine zaC (N:=6) rfl ?_);refine zbx (N:=6) #[.int .i64 f5,.int .i64 f6,.int .i64 e0,.int .i64 e5,.int .i64 f7] 57 ?_;intro d8 hg w18 hbox hb;have n0_:=zaa.mk (zae (zL HB.out) hb);have n1_:=zaa.mk (hbox);have n2_:=zaa.mk ((zS hg (zL HB.out):w.heap.size≤d8));have n3_:=n2_;clear HB;have HB:=n0_;have d5:=n1_;have k3:=n2_;have e6:=n3_;clear n0_ n1_ n2_ n3_;clear hb hbox hg)|((with_reducible refine zah (f:=126) rfl ?_);refine zgl 24 Try.func126 #[.int .i64 a2] ?_;(with_reducible refine (zaY.calls a2 k9 _ A17.out).mono ?_);rintro e w19 ⟨rfl,hb⟩;refine ⟨_,rfl,?_⟩;replace d5:=zaa.mk (zac (zB d5.out) hb);replace HB:=zaa.mk (zae (zL1 HB.out e6.out) hb);(try clear hb)))
    go_ret
    exact zG
   ·rw [if_neg c16] at H
    have c16b0:(a0==3)=false:=beq_eq_false_iff_ne.mpr c16
    have c16b1:(a0 != 3)=true:=bne_iff_ne.mpr c16
    by_cases c20:a0=4
    ·rw [if_pos c20] at H
     have c20b0:(a0==4)=true:=beq_iff_eq.mpr c20
     have c20b1:(a0 != 4)=false:=bne_eq_false_iff_eq.mpr c20
     clear c20
     obtain ⟨l3,A21,H⟩:=zob H
     replace H:(some l3)=some r:=H
     obtain rfl:=Option.some.inj H
     go_enter Try.func149,Try.ntmps149
     go_wp2_with (first|((with_reducible refine zaC (N:=6) rfl ?_);refine zbx (N:=6) #[.int .i64 f5,.int .i64 f6,.int .i64 e0,.int .i64 e5,.int .i64 f7] 57 ?_;intro d8 hg w22 hbox hb;have n0_:=zaa.mk (zae (zL HB.out) hb);have n1_:=zaa.mk (hbox);have n2_:=zaa.mk ((zS hg (zL HB.out):w.heap.size≤d8));have n3_:=n2_;clear HB;have HB:=n0_;have d5:=n1_;have k3:=n2_;have e6:=n3_;clear n0_ n1_ n2_ n3_;clear hb hbox hg)|((with_reducible refine zah (f:=162) rfl ?_);refine zgl 29 Try.func162 #[.int .i64 a4,.int .i64 a3,.int .i64 1] ?_;(with_reducible refine (zb4.calls a4 a3 1 l3 _ A21.out).mono ?_);rintro e w' ⟨rfl,⟨nd,rfl⟩⟩;refine ⟨_,rfl,?_⟩))
     go_ret
     exact zG
    ·rw [if_neg c20] at H
     have c20b0:(a0==4)=false:=beq_eq_false_iff_ne.mpr c20
     have c20b1:(a0 != 4)=true:=bne_iff_ne.mpr c20
     by_cases c23:a0=5
     ·rw [if_pos c23] at H
      have c23b0:(a0==5)=true:=beq_iff_eq.mpr c23
      have c23b1:(a0 != 5)=false:=bne_eq_false_iff_eq.mpr c23
      clear c23
      obtain ⟨j9,hji24⟩ : ∃ j_:Int,(mx 0 a3)=j_:=⟨_,rfl⟩
      replace H:(some (65535 - (mn 65535 (1024*(mn (j9) 64)))))=some r:=by first|(rw [hji24] at H;exact H)|(simp only [hji24] at H ⊢;exact H)
      (try (have hji24l:0≤j9:=by (rw [← hji24];unfold mx;(repeat' split) <;> omega)))
      (try (have hji24m:0≤j9:=by omega))
      have hji24_:(if 0<a3 then a3 else 0)=j9:=hji24
      obtain ⟨l5,hji25⟩ : ∃ j_:Int,(mn (j9) 64)=j_:=⟨_,rfl⟩
      replace H:(some (65535 - (mn 65535 (1024*(l5)))))=some r:=by first|(rw [hji25] at H;exact H)|(simp only [hji25] at H ⊢;exact H)
      have hji25_:(if 64<(j9) then 64 else (j9))=l5:=hji25
      obtain ⟨n8,hji26⟩ : ∃ j_:Int,(mn 65535 (1024*(l5)))=j_:=⟨_,rfl⟩
      replace H:(some (65535 - (n8)))=some r:=by first|(rw [hji26] at H;exact H)|(simp only [hji26] at H ⊢;exact H)
      have hji26_:(if (1024*(l5))<65535 then (1024*(l5)) else 65535)=n8:=hji26
      obtain rfl:=Option.some.inj H
      go_enter Try.func149,Try.ntmps149
      go_wp2_with (first|((with_reducible refine zaC (N:=6) rfl ?_);refine zbx (N:=6) #[.int .i64 f5,.int .i64 f6,.int .i64 e0,.int .i64 e5,.int .i64 f7] 57 ?_;intro d8 hg w27 hbox hb;have n0_:=zaa.mk (zae (zL HB.out) hb);have n1_:=zaa.mk (hbox);have n2_:=zaa.mk ((zS hg (zL HB.out):w.heap.size≤d8));have n3_:=n2_;clear HB;have HB:=n0_;have d5:=n1_;have k3:=n2_;have e6:=n3_;clear n0_ n1_ n2_ n3_;clear hb hbox hg))
      go_ret
      exact ⟨by first|rfl|(simp [zaK,zaL] <;> rfl)|(simp only [← hji24,← hji25,← hji26];first|rfl|(simp [zaK,zaL] <;> rfl))|(simp [*,zaK,zaL] <;> rfl),by repeat (first|(with_reducible first|exact HB.out|apply zan|apply zaj|apply zai|refine zao ?_ e6.out)|exact HB.out)⟩
     ·rw [if_neg c23] at H
      have c23b0:(a0==5)=false:=beq_eq_false_iff_ne.mpr c23
      have c23b1:(a0 != 5)=true:=bne_iff_ne.mpr c23
      obtain rfl:=Option.some.inj H
      go_enter Try.func149,Try.ntmps149
      go_wp2_with (first|((with_reducible refine zaC (N:=6) rfl ?_);refine zbx (N:=6) #[.int .i64 f5,.int .i64 f6,.int .i64 e0,.int .i64 e5,.int .i64 f7] 57 ?_;intro d8 hg w28 hbox hb;have n0_:=zaa.mk (zae (zL HB.out) hb);have n1_:=zaa.mk (hbox);have n2_:=zaa.mk ((zS hg (zL HB.out):w.heap.size≤d8));have n3_:=n2_;clear HB;have HB:=n0_;have d5:=n1_;have k3:=n2_;have e6:=n3_;clear n0_ n1_ n2_ n3_;clear hb hbox hg))
      go_ret
      exact zG
end Go.Proofs.Ytlilncnoohfcdaa.Br
