import Derived.Test.YtlilncnoohfcdaaDab
import Derived.Test.YtlilncnoohfcdaaHyp
import Derived.Test.YtlilncnoohfcdaaDax15
import Derived.Test.YtlilncnoohfcdaaDax8
import Derived.Test.YtlilncnoohfcdaaDax14
namespace Go.Proofs.Ytlilncnoohfcdaa.Num
open Go.RowKit Go.Proofs.YtlilncnoohfcdaaW.PrintWords Go.Proofs.YtlilncnoohfcdaaW.PrintLast Go.Proofs.YtlilncnoohfcdaaW.PrintMore Go.Proofs.Ytlilncnoohfcdaa.Da
theorem tab_all:((List.range 64).all fun n=>decide (0≤sineTab (n:Int)∧sineTab (n:Int)≤sineTab ((n:Int)+1)∧sineTab ((n:Int)+1)≤65536))=true:=by kernel_rfl
theorem tab_seg (i:Int) (h0:0≤i) (h1:i<64):0≤sineTab i∧sineTab i≤sineTab (i+1)∧sineTab (i+1)≤65536:=by
  obtain ⟨n,rfl⟩:=Int.eq_ofNat_of_zero_le h0
  have:=List.all_eq_true.1 tab_all n (List.mem_range.2 (by omega))
  exact of_decide_eq_true this
theorem tab_last:sineTab 64=65536:=by kernel_rfl
def quart (a:Int):Int:=if a=16384 then 65536 else sineTab (a / 256)+rdiv ((sineTab (a / 256+1) - sineTab (a / 256))*(a % 256)) 256
theorem seg_prod (d r:Int) (hd:0≤d∧d≤65536) (hr:0≤r∧r<256):0≤d*r∧d*r≤d*255:=
  ⟨Int.mul_nonneg hd.1 hr.1,Int.mul_le_mul_of_nonneg_left (by omega) hd.1⟩
theorem quart_bd (a:Int) (h:0≤a∧a≤16384):0≤quart a∧quart a≤65536:=by
  unfold quart
  by_cases c:a=16384
  · rw [if_pos c];omega
  · rw [if_neg c]
    have t:=tab_seg (a / 256) (by omega) (by omega)
    have p:=seg_prod (sineTab (a / 256+1) - sineTab (a / 256)) (a % 256) (by omega) (by omega)
    have r:=rdiv_lim ((sineTab (a / 256+1) - sineTab (a / 256))*(a % 256)) 256 (by omega) (sineTab (a / 256+1) - sineTab (a / 256)) (by omega) (by omega)
    have r0:0≤rdiv ((sineTab (a / 256+1) - sineTab (a / 256))*(a % 256)) 256:=by unfold rdiv;omega
    omega
theorem quart_f (k:Nat) (a:Int) (h:0≤a∧a≤16384):zba.f (k+1) a=some (quart a):=by
  unfold zba.f quart
  rw [if_pos h.1,if_pos h.2]
  by_cases c:a=16384
  · rw [if_pos (by omega),if_pos c,tab_last]
  · rw [if_neg (by omega),if_neg c]
    have t:=tab_seg (a / 256) (by omega) (by omega)
    have p:=seg_prod (sineTab (a / 256+1) - sineTab (a / 256)) (a % 256) (by omega) (by omega)
    have r:=rdiv_lim ((sineTab (a / 256+1) - sineTab (a / 256))*(a % 256)) 256 (by omega) (sineTab (a / 256+1) - sineTab (a / 256)) (by omega) (by omega)
    rw [w64 (n:=sineTab (a / 256+1) - sineTab (a / 256)) (by omega) (by omega),w64 (n:=(sineTab (a / 256+1) - sineTab (a / 256))*(a % 256)) (by omega) (by omega),div_f k _ 256 (by omega) (by omega) (by omega) (by omega),bsome,w64 (by omega) (by omega)]
theorem refQuart_f (k:Nat) (a:Int) (h:0≤a∧a≤16384):zaP.f (k+1) a=some (quart a):=by
  unfold zaP.f quart
  rw [if_pos h.1,if_pos h.2]
  by_cases c:a=16384
  · rw [if_pos c,if_pos c,tab_last]
  · rw [if_neg c,if_neg c]
    have t:=tab_seg (a / 256) (by omega) (by omega)
    have p:=seg_prod (sineTab (a / 256+1) - sineTab (a / 256)) (a % 256) (by omega) (by omega)
    have r:=rdiv_lim ((sineTab (a / 256+1) - sineTab (a / 256))*(a % 256)) 256 (by omega) (sineTab (a / 256+1) - sineTab (a / 256)) (by omega) (by omega)
    rw [w64 (n:=sineTab (a / 256+1) - sineTab (a / 256)) (by omega) (by omega),w64 (n:=256*(a / 256)) (by omega) (by omega),show a - 256*(a / 256)=a % 256 by omega,w64 (n:=a % 256) (by omega) (by omega),w64 (n:=(sineTab (a / 256+1) - sineTab (a / 256))*(a % 256)) (by omega) (by omega),refDiv_f k _ 256 (by omega) (by omega) (by omega) (by omega),bsome,w64 (by omega) (by omega)]
def sn (a:Int):Int:=if a / 16384=0 then quart a else if a / 16384=1 then quart (32768 - a) else if a / 16384=2 then -quart (a - 32768) else -quart (65536 - a)
theorem sn_bd (a:Int) (h:0≤a∧a<65536) : -65536≤sn a∧sn a≤65536:=by
  unfold sn
  (repeat' split) <;> first|(have:=quart_bd a (by omega);omega)|(have:=quart_bd (32768 - a) (by omega);omega)|(have:=quart_bd (a - 32768) (by omega);omega)|(have:=quart_bd (65536 - a) (by omega);omega)
theorem sine_f (k:Nat) (a:Int) (h:0≤a∧a<65536):zby.f (k+1) a=some (sn a):=by
  unfold zby.f sn
  obtain ⟨e1,e2⟩:=tdiv_pos a 16384 (by omega) h.1
  rw [e1,e2,w64 (n:=a / 16384) (by omega) (by omega)]
  by_cases c0:a / 16384=0
  · rw [if_pos c0,if_pos c0,quart_f k _ (by omega),bsome,show a % 16384=a by omega]
  · rw [if_neg c0,if_neg c0]
    by_cases c1:a / 16384=1
    · rw [if_pos c1,if_pos c1,w64 (n:=16384 - a % 16384) (by omega) (by omega),quart_f k _ (by omega),bsome,show 16384 - a % 16384=32768 - a by omega]
    · rw [if_neg c1,if_neg c1]
      by_cases c2:a / 16384=2
      · have b:=quart_bd (a - 32768) (by omega)
        rw [if_pos c2,if_pos c2,quart_f k _ (by omega),bsome,show a % 16384=a - 32768 by omega,w64 (by omega) (by omega)]
      · have b:=quart_bd (65536 - a) (by omega)
        rw [if_neg c2,if_neg c2,w64 (n:=16384 - a % 16384) (by omega) (by omega),quart_f k _ (by omega),bsome,show 16384 - a % 16384=65536 - a by omega,w64 (by omega) (by omega)]
theorem refSine_f (k:Nat) (a:Int) (h:0≤a∧a<65536):zaV.f (k+1) a=some (sn a):=by
  unfold zaV.f sn
  obtain ⟨e1,e2⟩:=tdiv_pos a 16384 (by omega) h.1
  rw [e1,w64 (n:=a / 16384) (by omega) (by omega),w64 (n:=16384*(a / 16384)) (by omega) (by omega),w64 (n:=a - 16384*(a / 16384)) (by omega) (by omega),show a - 16384*(a / 16384)=a % 16384 by omega]
  by_cases c0:a / 16384=0
  · rw [if_pos c0,if_pos c0,refQuart_f k _ (by omega),bsome,show a % 16384=a by omega]
  · rw [if_neg c0,if_neg c0]
    by_cases c1:a / 16384=1
    · rw [if_pos c1,if_pos c1,w64 (n:=16384 - a % 16384) (by omega) (by omega),refQuart_f k _ (by omega),bsome,show 16384 - a % 16384=32768 - a by omega]
    · rw [if_neg c1,if_neg c1]
      by_cases c2:a / 16384=2
      · have b:=quart_bd (a - 32768) (by omega)
        rw [if_pos c2,if_pos c2,refQuart_f k _ (by omega),bsome,show a % 16384=a - 32768 by omega,w64 (by omega) (by omega)]
      · have b:=quart_bd (65536 - a) (by omega)
        rw [if_neg c2,if_neg c2,w64 (n:=16384 - a % 16384) (by omega) (by omega),refQuart_f k _ (by omega),bsome,show 16384 - a % 16384=65536 - a by omega,w64 (by omega) (by omega)]
theorem wraps_i64 (n:Int) (h0:0≤n) (h1:n<2 ^ 63):IntKind.i64.wrap n=n:=(i64_w n).trans (w64 (by omega) (by omega))
theorem and_16 (x:Int) (h0:0≤x) (h1:x<9223372036854775808):Go.bits .and .i64 x 65535=x % 65536:=
  bits_mask .i64 63 (by decide) wraps_i64 16 (by decide) x h0 h1
def cs (a:Int):Int:=sn ((a+16384) % 65536)
theorem turn_f (k:Nat) (a:Int) (h:0≤a∧a≤1000000000):zbE.f (k+1) a=some (sn (a % 65536),cs (a % 65536)):=by
  unfold zbE.f cs
  rw [and_16 a h.1 (by omega),sine_f k _ (by omega),bsome,w64 (by omega) (by omega),and_16 _ (by omega) (by omega),sine_f k _ (by omega),bsome]
theorem refTurn_f (k:Nat) (a:Int) (h:0≤a∧a≤1000000000):zbn.f (k+1) a=some (sn (a % 65536),cs (a % 65536)):=by
  unfold zbn.f cs
  rw [(tdiv_pos a 65536 (by omega) h.1).2,if_neg (by omega),refSine_f k _ (by omega),bsome,w64 (by omega) (by omega),(tdiv_pos (a % 65536+16384) 65536 (by omega) (by omega)).2,refSine_f k _ (by omega),bsome]
end Go.Proofs.Ytlilncnoohfcdaa.Num
