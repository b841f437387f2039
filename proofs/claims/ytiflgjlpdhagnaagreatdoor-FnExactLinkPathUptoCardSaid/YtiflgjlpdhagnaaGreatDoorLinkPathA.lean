import Derived.Test.YtiflgjlpdhagnaaGreatDoorLinkPathA1
set_option linter.unusedVariables false
set_option linter.unusedSimpArgs false
noncomputable section
namespace Mf
open Go
set_option maxRecDepth 100000
def Xf4 (aF:Fs_) (aPath:List UInt8) (aTo:List UInt8):Option Bool:=
 cond (decide ((aPath.length:Int)>1048576)) (some true) (cond (decide ((aTo.length:Int)>1048576)) (some true) ((Xhc aF 1048576).bind fun r=>cond (decide (r<0)) (some true) ((Xf7 aF).bind fun r2=>(Xgu (r2.1,r2.2.1,r2.2.2) aPath aTo).bind fun r3=>(Xf7 aF).bind fun r4=>(Xcz (r4.1,r4.2.1,r4.2.2) aPath aTo).bind fun r5=>(Xdb (r5.1,r5.2.1,r5.2.2.1,r5.2.2.2.1,r5.2.2.2.2.1,(r5.2.2.2.2.2.1.1,r5.2.2.2.2.2.1.2.1,r5.2.2.2.2.2.1.2.2),r5.2.2.2.2.2.2) (r3.1,r3.2.1,r3.2.2.1,r3.2.2.2.1,r3.2.2.2.2.1,(r3.2.2.2.2.2.1.1,r3.2.2.2.2.2.1.2.1,r3.2.2.2.2.2.1.2.2),r3.2.2.2.2.2.2)).bind fun r6=>cond (!r6) (some false) ((Xf7 aF).bind fun r7=>(Xc1 (r4.1,r4.2.1,r4.2.2) (r7.1,r7.2.1,r7.2.2)).bind fun r8=>cond (!r8) (some false) ((Xb8 (r4.1,r4.2.1,r4.2.2) 1).bind fun r9=>cond (decide (r9.1<0)) (some false) ((Xdb (r5.1,r5.2.1,r5.2.2.1,r5.2.2.2.1,r5.2.2.2.2.1,(r5.2.2.2.2.2.1.1,r5.2.2.2.2.2.1.2.1,r5.2.2.2.2.2.1.2.2),r5.2.2.2.2.2.2) (r3.1,r3.2.1,r3.2.2.1,r3.2.2.2.1,r3.2.2.2.2.1,(r3.2.2.2.2.2.1.1,r3.2.2.2.2.2.1.2.1,r3.2.2.2.2.2.1.2.2),r3.2.2.2.2.2.2)).bind fun r10=>cond (!r10) (some false) ((Xeo (r5.1,r5.2.1,r5.2.2.1,r5.2.2.2.1,r5.2.2.2.2.1,(r5.2.2.2.2.2.1.1,r5.2.2.2.2.2.1.2.1,r5.2.2.2.2.2.1.2.2),r5.2.2.2.2.2.2) 1).bind fun r11=>(Xdv (r5.1,r5.2.1,r5.2.2.1,r11.2.2.2.2.1,r11.2.2.2.2.2.1,(r11.2.2.2.2.2.2.1.1,r11.2.2.2.2.2.2.1.2.1,r5.2.2.2.2.2.1.2.2),r5.2.2.2.2.2.2) 1).bind fun r12=>cond (decide (r12<0)) (some false) (cond (r12 != r11.1) (some false) ((Xf7 aF).bind fun r13=>(Xcz (r13.1,r13.2.1,r13.2.2) aPath aTo).bind fun r14=>(Xdb (r14.1,r14.2.1,r14.2.2.1,r14.2.2.2.1,r14.2.2.2.2.1,(r14.2.2.2.2.2.1.1,r14.2.2.2.2.2.1.2.1,r14.2.2.2.2.2.1.2.2),r14.2.2.2.2.2.2) (r3.1,r3.2.1,r3.2.2.1,r3.2.2.2.1,r3.2.2.2.2.1,(r3.2.2.2.2.2.1.1,r3.2.2.2.2.2.1.2.1,r3.2.2.2.2.2.1.2.2),r3.2.2.2.2.2.2)).bind fun r15=>cond (!r15) (some false) ((Xdv (r5.1,r5.2.1,r5.2.2.1,r11.2.2.2.2.1,r11.2.2.2.2.2.1,(r11.2.2.2.2.2.2.1.1,r11.2.2.2.2.2.2.1.2.1,r5.2.2.2.2.2.1.2.2),r5.2.2.2.2.2.2) 1).bind fun r16=>cond (decide (r16<0)) (some false) (cond (r16 != r11.1) (some false) (some true))))))))))))
namespace Xf4
def G:Gam:=mkG [(5,Xhc.FS),(7,Xf7.FS),(6,Xgu.FS),(8,Xcz.FS),(9,Xdb.FS),(10,Xc1.FS),(11,Xb8.FS),(12,Xeo.FS),(13,Xdv.FS)]
def pts:List PT:=[.cs Xl,.cs .str,.cs .str]
def FS:FS:=Yef [.sh,.sh,.sh] pts (fun x=>Xf4 x.1 x.2.1 x.2.2.1) fun t=>⟨[.cs .bool t],[]⟩
theorem ok:Ydh PR 3 FS:=
 Ywf Xe Xd Proofs.Tryz.f3 ⟨[3],[],[],0⟩ .no (G:=G) (show GOk PR G from .cons Xhc.ok (.cons Xf7.ok (.cons Xgu.ok (.cons Xcz.ok (.cons Xdb.ok (.cons Xc1.ok (.cons Xb8.ok (.cons Xeo.ok (.cons Xdv.ok .nil))))))))) (L:=mkL []) (l:=[]) hT
  (fun x=>by simp only[Xf4,mC,mB,mS,mO,mN];kernel_rfl)
end Xf4
end Mf
