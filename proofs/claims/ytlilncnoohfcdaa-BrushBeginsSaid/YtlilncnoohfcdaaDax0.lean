
import Derived.Test.YtlilncnoohfcdaaProg
import Derived.Below
import Derived.Deep.Draws
import Derived.Deep.AppendLies
import Derived.Maps.AppendAt
import Derived.OwnWalk
import Derived.Laws.BytesArg
import Derived.Laws.MakeOwn
import Derived.Laws.OwnMore
import Derived.Deep.OwnRows
import Derived.Tactics
import Derived.Lib.ConvBytes
import Derived.Laws.Slices
import Derived.WalkKit
import Derived.KernelRfl
import Derived.RowKit3
import Derived.Deep.LoopGhost
import Derived.Deep.QuietTactic
import Derived.BigQuiet
import Derived.WideLaws
import Derived.Deep.DeepCutAuto
import Derived.Deep.CutBlock
import Derived.Deep.RegionHeld3
import Derived.Laws.Rows
import Derived.Lib.AppendStr
import Derived.ArgAppend
import Derived.Laws.IdiomCopy
import Derived.OrdersHeld
import Derived.Laws.BitsLemmas
import Derived.RowKit
import Derived.Laws.Tables
import Derived.Laws.CopyOwn
import Derived.Test.YtlilncnoohfcdaaDaV
namespace Go.Proofs.Ytlilncnoohfcdaa.Da
open Go.RowKit Go.Proofs.YtlilncnoohfcdaaW.PrintWords Go.Proofs.YtlilncnoohfcdaaW.PrintLast Go.Proofs.YtlilncnoohfcdaaW.PrintMore
attribute [local go_sem] zbr zbu zbD zbH zbq zbp zbv zbt   
set_option linter.unusedVariables false
set_option linter.unusedSimpArgs false
def errW:Option Int→Value
 | none=>.nilIface
 | some c=>.iface 0 (.int .i64 c)
theorem zaK:errW none = .nilIface:=rfl
theorem zaL (c:Int):errW (some c) = .iface 0 (.int .i64 c):=rfl
theorem zcl {P:Program} {ops:Array Oper} {Q:Exit→Act→World→Prop} {oi:Oper} {N:Option Tmp} {a:Act} {w:World} {K:Act→World→Prop} {f:FuncId} {fn:Func} {x:Operand} {xs_:Array Operand} {ts:Array TypeId} (hf:P.funcs[f]? = some fn) (hname:(fn.name == "runtime.NumGoroutine")=false) (hb:fn.body.isSome=true) (args:Array Value)
 (hw:Region.wanted oi (yielded ops a.tmps)=true) (hN:oi.dst=N) (hop:oi.op = .call { callee:=.value x,args:=xs_,argTypes:=ts }) (hx:a.eval x = .func (.func f) #[] #[]) (hargs:xs_.map a.eval=args)
 (h:Calls P f args w fun e w'=>∃ v,e = .returned v∧K (a.put N v) w'):if Region.wanted oi (yielded ops a.tmps)=true then Oper.wp P oi a w K Q else K (a.put N undef) w:=by
 refine call_ f args hw hN ?_ h
 have he:=enters_ hf hname hb args w
 unfold execOp
 simp [hop,resolve,Deferred.ofValue,invoke,hx,hargs,he]
/-! #### struct type 135 -/
structure S135 where
 f0:Int
 f1:Int
def z135:S135:=⟨(0:Int),(0:Int)⟩
def k135:Kd S135:=Kd.iso (Kd.pair (Kd.int .i64) (Kd.int .i64)) (fun x:S135=>(x.f0,x.f1))
theorem k135_open {w:World} {x:S135} {cs:List Value} (h:k135.K w x cs):cs=[.int .i64 x.f0,.int .i64 x.f1]:=by
 obtain ⟨_,_,rfl,rfl,rfl⟩:=h
 exact rfl
def zat (xs:List S135) (i:Int):S135:=xs.getD i.toNat z135
theorem zbV {w:World} {A:Option Addr} {n:Nat} {xs:List S135} (h:Kd.C k135 w A n xs) (i:Int) (h0:0≤i) (h1:i<n) : ∃ ad,A=some ad∧w.cell? (ad.add (i.toNat*2))=some (.int .i64 (zat xs i).f0)∧w.cell? ⟨(ad.add (i.toNat*2)).block,(ad.add (i.toNat*2)).off+1,none⟩=some (.int .i64 (zat xs i).f1):=by
 obtain ⟨ad,c,e,_,hK,hc0⟩:=Kd.C_get h z135 i h0 h1
 have hc : ∀ j u,c[j]? = some u→w.cell? (ad.add (i.toNat*2+j))=some u:=hc0
 obtain rfl:=k135_open hK
 exact ⟨ad,e,hc 0 _ rfl,by rw [← zct _ _ 1 (by omega)];exact hc 1 _ rfl⟩
structure S120 where
 f0:Int
 f1:Int
 f2:(List S135)
def z120:S120:=⟨(0:Int),(0:Int),([]:List S135)⟩
def k120:Kd S120:=Kd.iso (Kd.pair (Kd.int .i64) (Kd.pair (Kd.int .i64) (Kd.slice 135 k135))) (fun x:S120=>(x.f0,x.f1,x.f2))
theorem k120_open {w:World} {x:S120} {cs:List Value} (h:k120.K w x cs) : ∃ A2 c2,cs=[.int .i64 x.f0,.int .i64 x.f1,.slice A2 x.f2.length c2]∧x.f2.length≤c2∧k135.C w A2 x.f2.length x.f2:=by
 obtain ⟨_,_,rfl,rfl,⟨_,_,rfl,rfl,⟨A2,c2,rfl,l2,g2⟩⟩⟩:=h
 exact ⟨A2,c2,rfl,l2,g2⟩
def zaE (xs:List S120) (i:Int):S120:=xs.getD i.toNat z120
theorem zcj {w:World} {A:Option Addr} {n:Nat} {xs:List S120} (h:Kd.C k120 w A n xs) (i:Int) (h0:0≤i) (h1:i<n) : ∃ ad A2 c2,A=some ad∧w.cell? (ad.add (i.toNat*3))=some (.int .i64 (zaE xs i).f0)∧w.cell? ⟨(ad.add (i.toNat*3)).block,(ad.add (i.toNat*3)).off+1,none⟩=some (.int .i64 (zaE xs i).f1)∧w.cell? ⟨(ad.add (i.toNat*3)).block,(ad.add (i.toNat*3)).off+2,none⟩=some (.slice A2 (zaE xs i).f2.length c2)∧(zaE xs i).f2.length≤c2∧k135.C w A2 (zaE xs i).f2.length (zaE xs i).f2:=by
 obtain ⟨ad,c,e,_,hK,hc0⟩:=Kd.C_get h z120 i h0 h1
 have hc : ∀ j u,c[j]? = some u→w.cell? (ad.add (i.toNat*3+j))=some u:=hc0
 obtain ⟨A2,c2,rfl,l2,g2⟩:=k120_open hK
 exact ⟨ad,A2,c2,e,hc 0 _ rfl,by rw [← zct _ _ 1 (by omega)];exact hc 1 _ rfl,by rw [← zct _ _ 2 (by omega)];exact hc 2 _ rfl,l2,g2⟩
end Go.Proofs.Ytlilncnoohfcdaa.Da
