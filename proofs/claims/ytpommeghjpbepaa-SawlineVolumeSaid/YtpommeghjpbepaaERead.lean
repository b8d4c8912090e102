/- The readings of the laws' parameters. -/
import Derived.Test.YtpommeghjpbepaaEBase
import Derived.Test.YtpommeghjpbepaaYa6
import Derived.Test.YtpommeghjpbepaaRows
import Derived.Lib.LaidTab
set_option linter.unusedVariables false
set_option linter.unusedSimpArgs false
namespace Go.SL
namespace Saw
open Go.Proofs Go.RowKit Go.ChangeShapes Go.WideShapes
set_option maxRecDepth 100000
theorem rd_3 :wL Try.prog 3 qJ ZE ZG:=qL1 (by kernel_rfl) (by kernel_rfl)
def HO (r:Span):Prop:=ZE r.A/\ZE r.B/\True
def qLu :(Int×(Int×Unit))->Span:=(λr:Int×(Int×Unit)=>Span.mk r.1 r.2.1)
def HQ :∀H:Type,DataW H->Span->Prop:=VU qLu (VF (zI ZG (zI ZG XW)))
theorem und26 :Try.prog.underlying 26=some (.struct #[(Field.mk "A" 3 0 false "" "" 0),(Field.mk "B" 3 1 false "" "" 8)]):=by kernel_rfl
theorem qC2 :wL Try.prog 26 qP HO HQ:=
 QD (jD (fs:= #[(Field.mk "A" 3 0 false "" "" 0),(Field.mk "B" 3 1 false "" "" 8)]) und26 (zK (off:=0) rd_3 (zK (off:=1) rd_3 (RR 2) rfl (by kernel_rfl)) rfl (by kernel_rfl)) (by kernel_rfl)) qLu (fun _=>rfl) (fun _=>show 2=_ by kernel_rfl) (fun _ h=>h)
theorem rd_89 :wL Try.prog 89 (λl:List Span=>[tl qP du l]) (λl:List Span=>l.length<=maxLen/\∀x∈l,HO x) (D_sl HQ):=
 PT (e:=26) (by kernel_rfl) (by kernel_rfl) (show 0<_ from ur (show 0<2 by decide) (by kernel_rfl)) qC2
def qG5 (r:qQ):Prop:=ZE r.Low/\(λl:List Span=>l.length<=maxLen/\∀x∈l,HO x) r.Rows/\True
def qG2 :(Int×((List Span)×Unit))->qQ:=(λr:Int×((List Span)×Unit)=>qQ.mk r.1 r.2.1)
def qG9 :∀H:Type,DataW H->qQ->Prop:=VU qG2 (VF (zI ZG (zI (D_sl HQ) XW)))
theorem und91 :Try.prog.underlying 91=some (.struct #[(Field.mk "Low" 3 0 false "" "" 0),(Field.mk "Rows" 89 1 false "" "" 8)]):=by kernel_rfl
theorem rd_91 :wL Try.prog 91 jN qG5 qG9:=
 QD (jD (fs:= #[(Field.mk "Low" 3 0 false "" "" 0),(Field.mk "Rows" 89 1 false "" "" 8)]) und91 (zK (off:=0) rd_3 (zK (off:=1) rd_89 (RR 2) rfl (by kernel_rfl)) rfl (by kernel_rfl)) (by kernel_rfl)) qG2 (fun _=>rfl) (fun _=>show 2=_ by kernel_rfl) (fun _ h=>h)
def qGm (r:qF):Prop:=ZE r.Len/\qG5 r.Sec/\True
def qJ4 :(Int×(qQ×Unit))->qF:=(λr:Int×(qQ×Unit)=>qF.mk r.1 r.2.1)
def qGA :∀H:Type,DataW H->qF->Prop:=VU qJ4 (VF (zI ZG (zI qG9 XW)))
theorem und93 :Try.prog.underlying 93=some (.struct #[(Field.mk "Len" 3 0 false "" "" 0),(Field.mk "Sec" 91 1 false "" "" 8)]):=by kernel_rfl
theorem rd_93 :wL Try.prog 93 qG qGm qGA:=
 QD (jD (fs:= #[(Field.mk "Len" 3 0 false "" "" 0),(Field.mk "Sec" 91 1 false "" "" 8)]) und93 (zK (off:=0) rd_3 (zK (off:=1) rd_91 (RR 3) rfl (by kernel_rfl)) rfl (by kernel_rfl)) (by kernel_rfl)) qJ4 (fun _=>rfl) (fun _=>show 3=_ by kernel_rfl) (fun _ h=>h)
theorem rd_22 :wL Try.prog 22 (λl:List qF=>[tl qG du l]) (λl:List qF=>l.length<=maxLen/\∀x∈l,qGm x) (D_sl qGA):=
 PT (e:=93) (by kernel_rfl) (by kernel_rfl) (show 0<_ from ur (show 0<3 by decide) (by kernel_rfl)) rd_93
def wfBox (r:Box):Prop:=HO r.X/\HO r.Y/\HO r.Z/\True
def g_Box :(Span×(Span×(Span×Unit)))->Box:=(λr:Span×(Span×(Span×Unit))=>Box.mk r.1 r.2.1 r.2.2.1)
def D_Box :∀H:Type,DataW H->Box->Prop:=VU g_Box (VF (zI HQ (zI HQ (zI HQ XW))))
theorem und58 :Try.prog.underlying 58=some (.struct #[(Field.mk "X" 26 0 false "" "" 0),(Field.mk "Y" 26 2 false "" "" 16),(Field.mk "Z" 26 4 false "" "" 32)]):=by kernel_rfl
theorem rd_58 :wL Try.prog 58 WI wfBox D_Box:=
 QD (jD (fs:= #[(Field.mk "X" 26 0 false "" "" 0),(Field.mk "Y" 26 2 false "" "" 16),(Field.mk "Z" 26 4 false "" "" 32)]) und58 (zK (off:=0) qC2 (zK (off:=2) qC2 (zK (off:=4) qC2 (RR 6) rfl (by kernel_rfl)) rfl (by kernel_rfl)) rfl (by kernel_rfl)) (by kernel_rfl)) g_Box (fun _=>rfl) (fun _=>show 6=_ by kernel_rfl) (fun _ h=>h)
def qEf (r:qH):Prop:=ZE r.Kind/\wfBox r.Box/\True
def qIt :(Int×(Box×Unit))->qH:=(λr:Int×(Box×Unit)=>qH.mk r.1 r.2.1)
def qEy :∀H:Type,DataW H->qH->Prop:=VU qIt (VF (zI ZG (zI D_Box XW)))
theorem und122 :Try.prog.underlying 122=some (.struct #[(Field.mk "Kind" 3 0 false "" "" 0),(Field.mk "Box" 58 1 false "" "" 8)]):=by kernel_rfl
theorem rd_122 :wL Try.prog 122 qE qEf qEy:=
 QD (jD (fs:= #[(Field.mk "Kind" 3 0 false "" "" 0),(Field.mk "Box" 58 1 false "" "" 8)]) und122 (zK (off:=0) rd_3 (zK (off:=1) rd_58 (RR 7) rfl (by kernel_rfl)) rfl (by kernel_rfl)) (by kernel_rfl)) qIt (fun _=>rfl) (fun _=>show 7=_ by kernel_rfl) (fun _ h=>h)
theorem rd_23 :wL Try.prog 23 (λl:List qH=>[tl qE du l]) (λl:List qH=>l.length<=maxLen/\∀x∈l,qEf x) (D_sl qEy):=
 PT (e:=122) (by kernel_rfl) (by kernel_rfl) (show 0<_ from ur (show 0<7 by decide) (by kernel_rfl)) rd_122
theorem rd_9 :wL Try.prog 9 e_str strok qEu:=qIh (by kernel_rfl) (by kernel_rfl)
theorem rd_76 :wL Try.prog 76 (λl:List Int=>[tl qJ du l]) (λl:List Int=>l.length<=maxLen/\∀x∈l,ZE x) (D_sl ZG):=
 PT (e:=3) (by kernel_rfl) (by kernel_rfl) (show 0<_ from ur (show 0<1 by decide) (by kernel_rfl)) rd_3
def qCL (r:Product):Prop:=strok r.Name/\ZE r.Thick/\ZE r.Width/\ZE r.Allow/\ZE r.Wane/\(λl:List Int=>l.length<=maxLen/\∀x∈l,ZE x) r.Lengths/\(λl:List Int=>l.length<=maxLen/\∀x∈l,ZE x) r.Prices/\True
def qGS :(ByteArray×(Int×(Int×(Int×(Int×((List Int)×((List Int)×Unit)))))))->Product:=(λr:ByteArray×(Int×(Int×(Int×(Int×((List Int)×((List Int)×Unit))))))=>Product.mk r.1 r.2.1 r.2.2.1 r.2.2.2.1 r.2.2.2.2.1 r.2.2.2.2.2.1 r.2.2.2.2.2.2.1)
def qBX :∀H:Type,DataW H->Product->Prop:=VU qGS (VF (zI qEu (zI ZG (zI ZG (zI ZG (zI ZG (zI (D_sl ZG) (zI (D_sl ZG) XW))))))))
theorem und114 :Try.prog.underlying 114=some (.struct #[(Field.mk "Name" 9 0 false "" "" 0),(Field.mk "Thick" 3 1 false "" "" 16),(Field.mk "Width" 3 2 false "" "" 24),(Field.mk "Allow" 3 3 false "" "" 32),(Field.mk "Wane" 3 4 false "" "" 40),(Field.mk "Lengths" 76 5 false "" "" 48),(Field.mk "Prices" 76 6 false "" "" 72)]):=by kernel_rfl
theorem rd_114 :wL Try.prog 114 qD qCL qBX:=
 QD (jD (fs:= #[(Field.mk "Name" 9 0 false "" "" 0),(Field.mk "Thick" 3 1 false "" "" 16),(Field.mk "Width" 3 2 false "" "" 24),(Field.mk "Allow" 3 3 false "" "" 32),(Field.mk "Wane" 3 4 false "" "" 40),(Field.mk "Lengths" 76 5 false "" "" 48),(Field.mk "Prices" 76 6 false "" "" 72)]) und114 (zK (off:=0) rd_9 (zK (off:=1) rd_3 (zK (off:=2) rd_3 (zK (off:=3) rd_3 (zK (off:=4) rd_3 (zK (off:=5) rd_76 (zK (off:=6) rd_76 (RR 7) rfl (by kernel_rfl)) rfl (by kernel_rfl)) rfl (by kernel_rfl)) rfl (by kernel_rfl)) rfl (by kernel_rfl)) rfl (by kernel_rfl)) rfl (by kernel_rfl)) (by kernel_rfl)) qGS (fun _=>rfl) (fun _=>show 7=_ by kernel_rfl) (fun _ h=>h)
theorem rd_24 :wL Try.prog 24 (λl:List Product=>[tl qD du l]) (λl:List Product=>l.length<=maxLen/\∀x∈l,qCL x) (D_sl qBX):=
 PT (e:=114) (by kernel_rfl) (by kernel_rfl) (show 0<_ from ur (show 0<7 by decide) (by kernel_rfl)) rd_114
def qLJ (r:Rect):Prop:=HO r.X/\HO r.Y/\True
def qLV :(Span×(Span×Unit))->Rect:=(λr:Span×(Span×Unit)=>Rect.mk r.1 r.2.1)
def qLf :∀H:Type,DataW H->Rect->Prop:=VU qLV (VF (zI HQ (zI HQ XW)))
theorem und28 :Try.prog.underlying 28=some (.struct #[(Field.mk "X" 26 0 false "" "" 0),(Field.mk "Y" 26 2 false "" "" 16)]):=by kernel_rfl
theorem rd_28 :wL Try.prog 28 qK qLJ qLf:=
 QD (jD (fs:= #[(Field.mk "X" 26 0 false "" "" 0),(Field.mk "Y" 26 2 false "" "" 16)]) und28 (zK (off:=0) qC2 (zK (off:=2) qC2 (RR 4) rfl (by kernel_rfl)) rfl (by kernel_rfl)) (by kernel_rfl)) qLV (fun _=>rfl) (fun _=>show 4=_ by kernel_rfl) (fun _ h=>h)
def qIK (r:Node):Prop:=ZE r.Kind/\ZE r.At/\True
def qLC :(Int×(Int×Unit))->Node:=(λr:Int×(Int×Unit)=>Node.mk r.1 r.2.1)
def qIm :∀H:Type,DataW H->Node->Prop:=VU qLC (VF (zI ZG (zI ZG XW)))
theorem und117 :Try.prog.underlying 117=some (.struct #[(Field.mk "Kind" 3 0 false "" "" 0),(Field.mk "At" 3 1 false "" "" 8)]):=by kernel_rfl
theorem rd_117 :wL Try.prog 117 jY qIK qIm:=
 QD (jD (fs:= #[(Field.mk "Kind" 3 0 false "" "" 0),(Field.mk "At" 3 1 false "" "" 8)]) und117 (zK (off:=0) rd_3 (zK (off:=1) rd_3 (RR 2) rfl (by kernel_rfl)) rfl (by kernel_rfl)) (by kernel_rfl)) qLC (fun _=>rfl) (fun _=>show 2=_ by kernel_rfl) (fun _ h=>h)
theorem rd_29 :wL Try.prog 29 (λl:List Node=>[tl jY du l]) (λl:List Node=>l.length<=maxLen/\∀x∈l,qIK x) (D_sl qIm):=
 PT (e:=117) (by kernel_rfl) (by kernel_rfl) (show 0<_ from ur (show 0<2 by decide) (by kernel_rfl)) rd_117
def qG0 (r:Pattern):Prop:=qLJ r.Frame/\(λl:List Node=>l.length<=maxLen/\∀x∈l,qIK x) r.Nodes/\True
def qGR :(Rect×((List Node)×Unit))->Pattern:=(λr:Rect×((List Node)×Unit)=>Pattern.mk r.1 r.2.1)
def qHj :∀H:Type,DataW H->Pattern->Prop:=VU qGR (VF (zI qLf (zI (D_sl qIm) XW)))
theorem und31 :Try.prog.underlying 31=some (.struct #[(Field.mk "Frame" 28 0 false "" "" 0),(Field.mk "Nodes" 29 4 false "" "" 32)]):=by kernel_rfl
theorem rd_31 :wL Try.prog 31 qO qG0 qHj:=
 QD (jD (fs:= #[(Field.mk "Frame" 28 0 false "" "" 0),(Field.mk "Nodes" 29 4 false "" "" 32)]) und31 (zK (off:=0) rd_28 (zK (off:=4) rd_29 (RR 5) rfl (by kernel_rfl)) rfl (by kernel_rfl)) (by kernel_rfl)) qGR (fun _=>rfl) (fun _=>show 5=_ by kernel_rfl) (fun _ h=>h)
def wfSaw (r:Saw):Prop:=ZE r.Kerf/\ZE r.Trim/\ZE r.Pitch/\ZE r.Step/\True
def g_Saw :(Int×(Int×(Int×(Int×Unit))))->Saw:=(λr:Int×(Int×(Int×(Int×Unit)))=>Saw.mk r.1 r.2.1 r.2.2.1 r.2.2.2.1)
def D_Saw :∀H:Type,DataW H->Saw->Prop:=VU g_Saw (VF (zI ZG (zI ZG (zI ZG (zI ZG XW)))))
theorem und33 :Try.prog.underlying 33=some (.struct #[(Field.mk "Kerf" 3 0 false "" "" 0),(Field.mk "Trim" 3 1 false "" "" 8),(Field.mk "Pitch" 3 2 false "" "" 16),(Field.mk "Step" 3 3 false "" "" 24)]):=by kernel_rfl
theorem rd_33 :wL Try.prog 33 IQ wfSaw D_Saw:=
 QD (jD (fs:= #[(Field.mk "Kerf" 3 0 false "" "" 0),(Field.mk "Trim" 3 1 false "" "" 8),(Field.mk "Pitch" 3 2 false "" "" 16),(Field.mk "Step" 3 3 false "" "" 24)]) und33 (zK (off:=0) rd_3 (zK (off:=1) rd_3 (zK (off:=2) rd_3 (zK (off:=3) rd_3 (RR 4) rfl (by kernel_rfl)) rfl (by kernel_rfl)) rfl (by kernel_rfl)) rfl (by kernel_rfl)) (by kernel_rfl)) g_Saw (fun _=>rfl) (fun _=>show 4=_ by kernel_rfl) (fun _ h=>h)
def qKf (r:Rates):Prop:=ZE r.Chip/\ZE r.Dust/\ZE r.Fine/\True
def qJX :(Int×(Int×(Int×Unit)))->Rates:=(λr:Int×(Int×(Int×Unit))=>Rates.mk r.1 r.2.1 r.2.2.1)
def qJ1 :∀H:Type,DataW H->Rates->Prop:=VU qJX (VF (zI ZG (zI ZG (zI ZG XW))))
theorem und35 :Try.prog.underlying 35=some (.struct #[(Field.mk "Chip" 3 0 false "" "" 0),(Field.mk "Dust" 3 1 false "" "" 8),(Field.mk "Fine" 3 2 false "" "" 16)]):=by kernel_rfl
theorem rd_35 :wL Try.prog 35 DT qKf qJ1:=
 QD (jD (fs:= #[(Field.mk "Chip" 3 0 false "" "" 0),(Field.mk "Dust" 3 1 false "" "" 8),(Field.mk "Fine" 3 2 false "" "" 16)]) und35 (zK (off:=0) rd_3 (zK (off:=1) rd_3 (zK (off:=2) rd_3 (RR 3) rfl (by kernel_rfl)) rfl (by kernel_rfl)) rfl (by kernel_rfl)) (by kernel_rfl)) qJX (fun _=>rfl) (fun _=>show 3=_ by kernel_rfl) (fun _ h=>h)
def qBD (r:qN):Prop:=(λl:List qF=>l.length<=maxLen/\∀x∈l,qGm x) r.Solid/\(λl:List qH=>l.length<=maxLen/\∀x∈l,qEf x) r.Defects/\(λl:List Product=>l.length<=maxLen/\∀x∈l,qCL x) r.Products/\qG0 r.Pattern/\wfSaw r.Saw/\qKf r.Rates/\True
def qBy :((List qF)×((List qH)×((List Product)×(Pattern×(Saw×(Rates×Unit))))))->qN:=(λr:(List qF)×((List qH)×((List Product)×(Pattern×(Saw×(Rates×Unit)))))=>qN.mk r.1 r.2.1 r.2.2.1 r.2.2.2.1 r.2.2.2.2.1 r.2.2.2.2.2.1)
def qBA :∀H:Type,DataW H->qN->Prop:=VU qBy (VF (zI (D_sl qGA) (zI (D_sl qEy) (zI (D_sl qBX) (zI qHj (zI D_Saw (zI qJ1 XW)))))))
theorem und37 :Try.prog.underlying 37=some (.struct #[(Field.mk "Solid" 22 0 false "" "" 0),(Field.mk "Defects" 23 1 false "" "" 24),(Field.mk "Products" 24 2 false "" "" 48),(Field.mk "Pattern" 31 3 false "" "" 72),(Field.mk "Saw" 33 8 false "" "" 128),(Field.mk "Rates" 35 12 false "" "" 160)]):=by kernel_rfl
theorem rd_37 :wL Try.prog 37 qW qBD qBA:=
 QD (jD (fs:= #[(Field.mk "Solid" 22 0 false "" "" 0),(Field.mk "Defects" 23 1 false "" "" 24),(Field.mk "Products" 24 2 false "" "" 48),(Field.mk "Pattern" 31 3 false "" "" 72),(Field.mk "Saw" 33 8 false "" "" 128),(Field.mk "Rates" 35 12 false "" "" 160)]) und37 (zK (off:=0) rd_22 (zK (off:=1) rd_23 (zK (off:=2) rd_24 (zK (off:=3) rd_31 (zK (off:=8) rd_33 (zK (off:=12) rd_35 (RR 15) rfl (by kernel_rfl)) rfl (by kernel_rfl)) rfl (by kernel_rfl)) rfl (by kernel_rfl)) rfl (by kernel_rfl)) rfl (by kernel_rfl)) (by kernel_rfl)) qBy (fun _=>rfl) (fun _=>show 15=_ by kernel_rfl) (fun _ h=>h)
theorem rd_4 :wL Try.prog 4 qL6 (λ_=>True) qJr:=qKC (by kernel_rfl) (by kernel_rfl)
def IH (r:zH):Prop:=ZE r.Shift/\(λ_=>True) r.Stop/\True
def qCO :(Int×(Bool×Unit))->zH:=(λr:Int×(Bool×Unit)=>zH.mk r.1 r.2.1)
def AM :∀H:Type,DataW H->zH->Prop:=VU qCO (VF (zI ZG (zI qJr XW)))
theorem und46 :Try.prog.underlying 46=some (.struct #[(Field.mk "Shift" 3 0 false "" "" 0),(Field.mk "Stop" 4 1 false "" "" 8)]):=by kernel_rfl
theorem rd_46 :wL Try.prog 46 XN IH AM:=
 QD (jD (fs:= #[(Field.mk "Shift" 3 0 false "" "" 0),(Field.mk "Stop" 4 1 false "" "" 8)]) und46 (zK (off:=0) rd_3 (zK (off:=1) rd_4 (RR 2) rfl (by kernel_rfl)) rfl (by kernel_rfl)) (by kernel_rfl)) qCO (fun _=>rfl) (fun _=>show 2=_ by kernel_rfl) (fun _ h=>h)
theorem rd_38 :wL Try.prog 38 (λl:List zH=>[tl XN du l]) (λl:List zH=>l.length<=maxLen/\∀x∈l,IH x) (D_sl AM):=
 PT (e:=46) (by kernel_rfl) (by kernel_rfl) (show 0<_ from ur (show 0<2 by decide) (by kernel_rfl)) rd_46
theorem und38 :Try.prog.underlying 38=some (.slice 46):=by kernel_rfl
section
variable {H :Type} {enc:TypeId×Value->H} {w:World} {r:Reach} {b0:Nat} {v:Value} {d:DataW H} {ps:List MemPlace}
theorem open_37 (hval:Value.okWide Try.prog w r b0 37 v) (hd:DataW.Trod enc Try.prog w 0 (λ_=>true) true 37 v d ps):∃x,qBD x/\qBA H d x/\zA w (Mem.of λ_=>True) (.agg (qW x)) v:=by
 obtain⟨x,h1,h2,h3⟩:=qGi rd_37 und37 hval hd;exact⟨x,h1,h2,h3⟩
theorem open_38 (hval:Value.okWide Try.prog w r b0 38 v) (hd:DataW.Trod enc Try.prog w 0 (λ_=>true) true 38 v d ps):∃x:List zH,(x.length<=maxLen/\∀y∈x,IH y)/\D_sl AM H d x/\zA w (Mem.of λ_=>True) (.one (tl XN du x)) v:=by
 obtain⟨x,h1,h2,h3⟩:=qHI rd_38 und38 hval hd;exact⟨x,h1,h2,h3⟩
end
theorem qMF {W:World}:DP globs W (λ_=>True):=λg c h=>by cases h
noncomputable def qCw (os:Os):World:=World.holding Try.prog os ⟨#[], #[],[]⟩
theorem laidOut :laidOutB Try.prog=true:=by kernel_rfl
theorem own :ownKnob Try.prog.godebug=none:=by kernel_rfl
end Saw
end Go.SL
