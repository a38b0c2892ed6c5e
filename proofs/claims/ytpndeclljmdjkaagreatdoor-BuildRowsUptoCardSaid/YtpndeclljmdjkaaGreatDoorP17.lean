/- A part of the proof (texts B9). -/
import Derived.Test.YtpndeclljmdjkaaGreatDoorP10
import Derived.Test.YtpndeclljmdjkaaGreatDoorP13
set_option linter.all false
set_option maxRecDepth 100000
namespace Go.SX
open Int renaming eq_ofNat_of_zero_le -> cO,toNat_natCast -> bP
open Go.XK Go.RowKit
set_option maxHeartbeats 40000000
noncomputable section
theorem ntr {b:Bool} (h:(!b)=true):b=false:=by cases b<;>simp_all
theorem Et {b:Bool} (h:(!b)=false):b=true:=by cases b<;>simp_all
def oW (P:Nat->Bool) (k:Nat) (_:Unit) (next:Unit->Bool):Bool:=bif !P k then false else next ()
def oV (_:Unit):Bool:=true
def vB (P:Nat->Bool) (n:Nat):Bool:=lp (oW P) oV (n-1) 1 ()
def I_Fl:je E0:=kC 365 Proofs.Tryz.f365 rfl rfl
def I_GC:je E0:=kC 405 Proofs.Tryz.f405 rfl rfl
def I_FX:je E0:=kC 366 Proofs.Tryz.f366 rfl rfl
def F_Bw:Fact E0:=bM 277 Proofs.Tryz.f277 rfl rfl rfl [.l 63,.k 274 [] [.p bL]] (fun l _ dw _ _ _ _ _ _ _ _ _=>.ok (.b ((List.range l.length).all (fun k=>SF dw (gt 63 l k))))) [F_Ch] [I_Fl,I_GC,I_FX] uW
def I_Fj:je E0:=kC 367 Proofs.Tryz.f367 rfl rfl
def I_Fy:je E0:=kC 406 Proofs.Tryz.f406 rfl rfl
def I_FV:je E0:=kC 368 Proofs.Tryz.f368 rfl rfl
def F_Bu:Fact E0:=bM 284 Proofs.Tryz.f284 rfl rfl rfl [.l 65,.k 280 [] [.p bL]] (fun l _ dw iJ _ _ _ _ _ _ _ _=>.ok (.b ((List.range l.length).all (fun k=>JL dw iJ.length (gt 65 l k))))) [F_CZ] [I_Fj,I_Fy,I_FV] uW
def I_Fn:je E0:=kC 369 Proofs.Tryz.f369 rfl rfl
def I_GF:je E0:=kC 407 Proofs.Tryz.f407 rfl rfl
def I_FZ:je E0:=kC 370 Proofs.Tryz.f370 rfl rfl
def F_By:Fact E0:=bM 286 Proofs.Tryz.f286 rfl rfl rfl [.l 0,.k 287 [] [.p bL]] (fun l _ dw _ _ _ _ _ _ _ _ _=>.ok (.b ((List.range l.length).all (fun k=>obIn dw.length (gt 0 l k))))) [F_CM] [I_Fn,I_GF,I_FZ] uW
def I_Ff:je E0:=kC 371 Proofs.Tryz.f371 rfl rfl
def I_Fr:je E0:=kC 408 Proofs.Tryz.f408 rfl rfl
def I_FR:je E0:=kC 372 Proofs.Tryz.f372 rfl rfl
def F_Bq:Fact E0:=bM 294 Proofs.Tryz.f294 rfl rfl rfl [.l 69,.k 295 [] [.p bL]] (fun l _ _ iJ _ _ _ _ _ _ _ _=>.ok (.b ((List.range l.length).all (fun k=>Qv iJ (gt 69 l k))))) [F_CR] [I_Ff,I_Fr,I_FR] uW
def I_Fh:je E0:=kC 373 Proofs.Tryz.f373 rfl rfl
def I_Ft:je E0:=kC 409 Proofs.Tryz.f409 rfl rfl
def I_FT:je E0:=kC 374 Proofs.Tryz.f374 rfl rfl
def F_Bs:Fact E0:=bM 300 Proofs.Tryz.f300 rfl rfl rfl [.l 11,.k 297 [] [.p bL]] (fun l _ dw _ _ _ _ _ _ _ _ _=>.ok (.b ((List.range l.length).all (fun k=>Qu dw (gt 11 l k))))) [F_CW] [I_Fh,I_Ft,I_FT] uW
def I_Fg:je E0:=kC 375 Proofs.Tryz.f375 rfl rfl
def I_Fs:je E0:=kC 410 Proofs.Tryz.f410 rfl rfl
def I_FS:je E0:=kC 376 Proofs.Tryz.f376 rfl rfl
def F_Br:Fact E0:=bM 302 Proofs.Tryz.f302 rfl rfl rfl [.l 13,.k 303 [] [.p bL]] (fun l _ dw _ _ _ _ _ _ _ _ _=>.ok (.b ((List.range l.length).all (fun k=>YG dw (gt 13 l k))))) [F_CT] [I_Fg,I_Fs,I_FS] uW
def I_Fm:je E0:=kC 377 Proofs.Tryz.f377 rfl rfl
def I_GE:je E0:=kC 411 Proofs.Tryz.f411 rfl rfl
def I_FY:je E0:=kC 378 Proofs.Tryz.f378 rfl rfl
def F_Bx:Fact E0:=bM 307 Proofs.Tryz.f307 rfl rfl rfl [.l 46,.k 305 [] [.p bL]] (fun l _ dw iJ _ _ _ _ _ _ _ _=>.ok (.b ((List.range l.length).all (fun k=>YF dw iJ (gt 46 l k))))) [F_Ck] [I_Fm,I_GE,I_FY] uW
def I_Fe:je E0:=kC 379 Proofs.Tryz.f379 rfl rfl
def I_Fq:je E0:=kC 412 Proofs.Tryz.f412 rfl rfl
def I_FQ:je E0:=kC 380 Proofs.Tryz.f380 rfl rfl
def F_Bp:Fact E0:=bM 311 Proofs.Tryz.f311 rfl rfl rfl [.l 17,.k 309 [] [.p bL]] (fun l _ dw _ _ _ _ _ _ _ _ _=>.ok (.b ((List.range l.length).all (fun k=>YK dw (gt 17 l k))))) [F_CJ] [I_Fe,I_Fq,I_FQ] uW
def I_Fi:je E0:=kC 381 Proofs.Tryz.f381 rfl rfl
def I_Fw:je E0:=kC 413 Proofs.Tryz.f413 rfl rfl
def I_FU:je E0:=kC 382 Proofs.Tryz.f382 rfl rfl
def F_Bt:Fact E0:=bM 315 Proofs.Tryz.f315 rfl rfl rfl [.l 29,.k 316 [] [.p [.k 314 [] []],.p [.i]]] (fun l sz=>.ok (.b ((List.range l.length).all (fun k=>obPc sz (gt 29 l k))))) [F_CF] [I_Fi,I_Fw,I_FU] uW
def F_Cr:Fact E0:=bM 285 Proofs.Tryz.f285 rfl rfl rfl [.l 65,.k 283 [] []] (fun l=>.ok (.b (vB (fun k=>Gt (gt 65 l ((k:Int)-1).toNat) (gt 65 l k)) l.length))) [F_Ca] [] (by
   intro l;refine dP rfl rfl fun hk=>?_
   simp only [know]at hk
   repeat' first|refine dM ?_|apply B_<;>intro h hc|apply I_;intro h
   all_goals conv=>whnf
   refine Or.inr (Or.inr ⟨[],[5],[],[],[0,1],[],?_⟩);conv=>whnf
   refine⟨fun(s:Int×Unit) (t:Unit)=>1<=s.1/\s.1<=l.length+1/\vB (fun k=>Gt (gt 65 l ((k:Int)-1).toNat) (gt 65 l k)) l.length=lp (oW (fun k=>Gt (gt 65 l ((k:Int)-1).toNat) (gt 65 l k))) oV (l.length-s.1.toNat) s.1.toNat (()),fun(s:Int×Unit) (_:Unit)=>(l.length-s.1).toNat,?_⟩
   conv=>whnf
   refine eZ.mk ⟨bg,bg,rfl⟩ bA ?_
   rintro⟨(k:Int),_⟩ _ ⟨h0,h1,hS⟩
   try dsimp only at h0 h1 hS
   obtain⟨k,rfl⟩:=cO (show(0:Int)<=k by omega)
   rw [bP]at hS
   repeat' first|refine dM ?_|apply B_<;>intro h hc|apply I_;intro h
   all_goals conv=>whnf
   all_goals exact l5)
def F_Ct:Fact E0:=bM 288 Proofs.Tryz.f288 rfl rfl rfl [.l 0,.k 289 [] []] (fun l=>.ok (.b (vB (fun k=>ltI (gt 0 l ((k:Int)-1).toNat) (gt 0 l k)) l.length))) [F_CN] [] (by
   intro l;refine dP rfl rfl fun hk=>?_
   simp only [know]at hk
   repeat' first|refine dM ?_|apply B_<;>intro h hc|apply I_;intro h
   all_goals conv=>whnf
   refine Or.inr (Or.inr ⟨[],[5],[],[],[0,1],[],?_⟩);conv=>whnf
   refine⟨fun(s:Int×Unit) (t:Unit)=>1<=s.1/\s.1<=l.length+1/\vB (fun k=>ltI (gt 0 l ((k:Int)-1).toNat) (gt 0 l k)) l.length=lp (oW (fun k=>ltI (gt 0 l ((k:Int)-1).toNat) (gt 0 l k))) oV (l.length-s.1.toNat) s.1.toNat (()),fun(s:Int×Unit) (_:Unit)=>(l.length-s.1).toNat,?_⟩
   conv=>whnf
   refine eZ.mk ⟨bg,bg,rfl⟩ bA ?_
   rintro⟨(k:Int),_⟩ _ ⟨h0,h1,hS⟩
   try dsimp only at h0 h1 hS
   obtain⟨k,rfl⟩:=cO (show(0:Int)<=k by omega)
   rw [bP]at hS
   repeat' first|refine dM ?_|apply B_<;>intro h hc|apply I_;intro h
   all_goals conv=>whnf
   all_goals exact l5)
def F_Cp:Fact E0:=bM 301 Proofs.Tryz.f301 rfl rfl rfl [.l 11,.k 299 [] []] (fun l=>.ok (.b (vB (fun k=>AP (gt 11 l ((k:Int)-1).toNat) (gt 11 l k)) l.length))) [F_CX] [] (by
   intro l;refine dP rfl rfl fun hk=>?_
   simp only [know]at hk
   repeat' first|refine dM ?_|apply B_<;>intro h hc|apply I_;intro h
   all_goals conv=>whnf
   refine Or.inr (Or.inr ⟨[],[5],[],[],[0,1],[],?_⟩);conv=>whnf
   refine⟨fun(s:Int×Unit) (t:Unit)=>1<=s.1/\s.1<=l.length+1/\vB (fun k=>AP (gt 11 l ((k:Int)-1).toNat) (gt 11 l k)) l.length=lp (oW (fun k=>AP (gt 11 l ((k:Int)-1).toNat) (gt 11 l k))) oV (l.length-s.1.toNat) s.1.toNat (()),fun(s:Int×Unit) (_:Unit)=>(l.length-s.1).toNat,?_⟩
   conv=>whnf
   refine eZ.mk ⟨bg,bg,rfl⟩ bA ?_
   rintro⟨(k:Int),_⟩ _ ⟨h0,h1,hS⟩
   try dsimp only at h0 h1 hS
   obtain⟨k,rfl⟩:=cO (show(0:Int)<=k by omega)
   rw [bP]at hS
   repeat' first|refine dM ?_|apply B_<;>intro h hc|apply I_;intro h
   all_goals conv=>whnf
   all_goals exact l5)
def F_Cs:Fact E0:=bM 308 Proofs.Tryz.f308 rfl rfl rfl [.l 46,.k 306 [] []] (fun l=>.ok (.b (vB (fun k=>Gp (gt 46 l ((k:Int)-1).toNat) (gt 46 l k)) l.length))) [F_Cl] [] (by
   intro l;refine dP rfl rfl fun hk=>?_
   simp only [know]at hk
   repeat' first|refine dM ?_|apply B_<;>intro h hc|apply I_;intro h
   all_goals conv=>whnf
   refine Or.inr (Or.inr ⟨[],[5],[],[],[0,1],[],?_⟩);conv=>whnf
   refine⟨fun(s:Int×Unit) (t:Unit)=>1<=s.1/\s.1<=l.length+1/\vB (fun k=>Gp (gt 46 l ((k:Int)-1).toNat) (gt 46 l k)) l.length=lp (oW (fun k=>Gp (gt 46 l ((k:Int)-1).toNat) (gt 46 l k))) oV (l.length-s.1.toNat) s.1.toNat (()),fun(s:Int×Unit) (_:Unit)=>(l.length-s.1).toNat,?_⟩
   conv=>whnf
   refine eZ.mk ⟨bg,bg,rfl⟩ bA ?_
   rintro⟨(k:Int),_⟩ _ ⟨h0,h1,hS⟩
   try dsimp only at h0 h1 hS
   obtain⟨k,rfl⟩:=cO (show(0:Int)<=k by omega)
   rw [bP]at hS
   repeat' first|refine dM ?_|apply B_<;>intro h hc|apply I_;intro h
   all_goals conv=>whnf
   all_goals exact l5)
def F_Co:Fact E0:=bM 312 Proofs.Tryz.f312 rfl rfl rfl [.l 17,.k 310 [] []] (fun l=>.ok (.b (vB (fun k=>Gw (gt 17 l ((k:Int)-1).toNat) (gt 17 l k)) l.length))) [F_CK] [] (by
   intro l;refine dP rfl rfl fun hk=>?_
   simp only [know]at hk
   repeat' first|refine dM ?_|apply B_<;>intro h hc|apply I_;intro h
   all_goals conv=>whnf
   refine Or.inr (Or.inr ⟨[],[5],[],[],[0,1],[],?_⟩);conv=>whnf
   refine⟨fun(s:Int×Unit) (t:Unit)=>1<=s.1/\s.1<=l.length+1/\vB (fun k=>Gw (gt 17 l ((k:Int)-1).toNat) (gt 17 l k)) l.length=lp (oW (fun k=>Gw (gt 17 l ((k:Int)-1).toNat) (gt 17 l k))) oV (l.length-s.1.toNat) s.1.toNat (()),fun(s:Int×Unit) (_:Unit)=>(l.length-s.1).toNat,?_⟩
   conv=>whnf
   refine eZ.mk ⟨bg,bg,rfl⟩ bA ?_
   rintro⟨(k:Int),_⟩ _ ⟨h0,h1,hS⟩
   try dsimp only at h0 h1 hS
   obtain⟨k,rfl⟩:=cO (show(0:Int)<=k by omega)
   rw [bP]at hS
   repeat' first|refine dM ?_|apply B_<;>intro h hc|apply I_;intro h
   all_goals conv=>whnf
   all_goals exact l5)
def F_Cq:Fact E0:=bM 317 Proofs.Tryz.f317 rfl rfl rfl [.l 29,.k 318 [] []] (fun l=>.ok (.b (vB (fun k=>NT (gt 29 l ((k:Int)-1).toNat) (gt 29 l k)) l.length))) [F_CG] [] (by
   intro l;refine dP rfl rfl fun hk=>?_
   simp only [know]at hk
   repeat' first|refine dM ?_|apply B_<;>intro h hc|apply I_;intro h
   all_goals conv=>whnf
   refine Or.inr (Or.inr ⟨[],[5],[],[],[0,1],[],?_⟩);conv=>whnf
   refine⟨fun(s:Int×Unit) (t:Unit)=>1<=s.1/\s.1<=l.length+1/\vB (fun k=>NT (gt 29 l ((k:Int)-1).toNat) (gt 29 l k)) l.length=lp (oW (fun k=>NT (gt 29 l ((k:Int)-1).toNat) (gt 29 l k))) oV (l.length-s.1.toNat) s.1.toNat (()),fun(s:Int×Unit) (_:Unit)=>(l.length-s.1).toNat,?_⟩
   conv=>whnf
   refine eZ.mk ⟨bg,bg,rfl⟩ bA ?_
   rintro⟨(k:Int),_⟩ _ ⟨h0,h1,hS⟩
   try dsimp only at h0 h1 hS
   obtain⟨k,rfl⟩:=cO (show(0:Int)<=k by omega)
   rw [bP]at hS
   repeat' first|refine dM ?_|apply B_<;>intro h hc|apply I_;intro h
   all_goals conv=>whnf
   all_goals exact l5)
def F_Cn:Fact E0:=bM 321 Proofs.Tryz.f321 rfl rfl rfl [.l 71,.k 319 [] []] (fun l=>.ok (.b (vB (fun k=>NU (gt 71 l ((k:Int)-1).toNat) (gt 71 l k)) l.length))) [F_CH] [] (by
   intro l;refine dP rfl rfl fun hk=>?_
   simp only [know]at hk
   repeat' first|refine dM ?_|apply B_<;>intro h hc|apply I_;intro h
   all_goals conv=>whnf
   refine Or.inr (Or.inr ⟨[],[5],[],[],[0,1],[],?_⟩);conv=>whnf
   refine⟨fun(s:Int×Unit) (t:Unit)=>1<=s.1/\s.1<=l.length+1/\vB (fun k=>NU (gt 71 l ((k:Int)-1).toNat) (gt 71 l k)) l.length=lp (oW (fun k=>NU (gt 71 l ((k:Int)-1).toNat) (gt 71 l k))) oV (l.length-s.1.toNat) s.1.toNat (()),fun(s:Int×Unit) (_:Unit)=>(l.length-s.1).toNat,?_⟩
   conv=>whnf
   refine eZ.mk ⟨bg,bg,rfl⟩ bA ?_
   rintro⟨(k:Int),_⟩ _ ⟨h0,h1,hS⟩
   try dsimp only at h0 h1 hS
   obtain⟨k,rfl⟩:=cO (show(0:Int)<=k by omega)
   rw [bP]at hS
   repeat' first|refine dM ?_|apply B_<;>intro h hc|apply I_;intro h
   all_goals conv=>whnf
   all_goals exact l5)
end
end Go.SX
