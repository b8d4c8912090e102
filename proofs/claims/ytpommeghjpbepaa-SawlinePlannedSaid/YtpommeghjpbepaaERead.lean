/- The readings of the laws' parameters. -/
import Derived.Test.YtpommeghjpbepaaEBase
import Derived.Test.YtpommeghjpbepaaYa6
import Derived.Test.YtpommeghjpbepaaRows
import Derived.Lib.LaidTab
set_option linter.unusedVariables false
set_option linter.unusedSimpArgs false
namespace Go.SL
namespace Saw
open Go.Proofs Go.RowKit Go.ChangeShapes Go.WideShapes
set_option maxRecDepth 100000
theorem rd_3 :yI Try.prog 3 qL WF WN:=qMZ (by kernel_rfl) (by kernel_rfl)
def EZ (r:Span):Prop:=WF r.A/\WF r.B/\True
def qNl :(Int×(Int×Unit))->Span:=(λr:Int×(Int×Unit)=>Span.mk r.1 r.2.1)
def EI :∀H:Type,DataW H->Span->Prop:=NS qNl (NC (zP WN (zP WN RQ)))
theorem und26 :Try.prog.underlying 26=some (.struct #[(Field.mk "A" 3 0 false "" "" 0),(Field.mk "B" 3 1 false "" "" 8)]):=by kernel_rfl
theorem qD2 :yI Try.prog 26 qO EZ EI:=
 ZN (yR (fs:= #[(Field.mk "A" 3 0 false "" "" 0),(Field.mk "B" 3 1 false "" "" 8)]) und26 (zR (off:=0) rd_3 (zR (off:=1) rd_3 (GC 2) rfl (by kernel_rfl)) rfl (by kernel_rfl)) (by kernel_rfl)) qNl (fun _=>rfl) (fun _=>show 2=_ by kernel_rfl) (fun _ h=>h)
theorem rd_89 :yI Try.prog 89 (λl:List Span=>[tl qO du l]) (λl:List Span=>l.length<=maxLen/\∀x∈l,EZ x) (D_sl EI):=
 GT (e:=26) (by kernel_rfl) (by kernel_rfl) (show 0<_ from ux (show 0<2 by decide) (by kernel_rfl)) qD2
def qIo (r:qR):Prop:=WF r.Low/\(λl:List Span=>l.length<=maxLen/\∀x∈l,EZ x) r.Rows/\True
def qIN :(Int×((List Span)×Unit))->qR:=(λr:Int×((List Span)×Unit)=>qR.mk r.1 r.2.1)
def qIG :∀H:Type,DataW H->qR->Prop:=NS qIN (NC (zP WN (zP (D_sl EI) RQ)))
theorem und91 :Try.prog.underlying 91=some (.struct #[(Field.mk "Low" 3 0 false "" "" 0),(Field.mk "Rows" 89 1 false "" "" 8)]):=by kernel_rfl
theorem rd_91 :yI Try.prog 91 jX qIo qIG:=
 ZN (yR (fs:= #[(Field.mk "Low" 3 0 false "" "" 0),(Field.mk "Rows" 89 1 false "" "" 8)]) und91 (zR (off:=0) rd_3 (zR (off:=1) rd_89 (GC 2) rfl (by kernel_rfl)) rfl (by kernel_rfl)) (by kernel_rfl)) qIN (fun _=>rfl) (fun _=>show 2=_ by kernel_rfl) (fun _ h=>h)
def qHo (r:qG):Prop:=WF r.Len/\qIo r.Sec/\True
def qLJ :(Int×(qR×Unit))->qG:=(λr:Int×(qR×Unit)=>qG.mk r.1 r.2.1)
def qHP :∀H:Type,DataW H->qG->Prop:=NS qLJ (NC (zP WN (zP qIG RQ)))
theorem und93 :Try.prog.underlying 93=some (.struct #[(Field.mk "Len" 3 0 false "" "" 0),(Field.mk "Sec" 91 1 false "" "" 8)]):=by kernel_rfl
theorem rd_93 :yI Try.prog 93 qF qHo qHP:=
 ZN (yR (fs:= #[(Field.mk "Len" 3 0 false "" "" 0),(Field.mk "Sec" 91 1 false "" "" 8)]) und93 (zR (off:=0) rd_3 (zR (off:=1) rd_91 (GC 3) rfl (by kernel_rfl)) rfl (by kernel_rfl)) (by kernel_rfl)) qLJ (fun _=>rfl) (fun _=>show 3=_ by kernel_rfl) (fun _ h=>h)
theorem rd_22 :yI Try.prog 22 (λl:List qG=>[tl qF du l]) (λl:List qG=>l.length<=maxLen/\∀x∈l,qHo x) (D_sl qHP):=
 GT (e:=93) (by kernel_rfl) (by kernel_rfl) (show 0<_ from ux (show 0<3 by decide) (by kernel_rfl)) rd_93
def wfBox (r:Box):Prop:=EZ r.X/\EZ r.Y/\EZ r.Z/\True
def g_Box :(Span×(Span×(Span×Unit)))->Box:=(λr:Span×(Span×(Span×Unit))=>Box.mk r.1 r.2.1 r.2.2.1)
def D_Box :∀H:Type,DataW H->Box->Prop:=NS g_Box (NC (zP EI (zP EI (zP EI RQ))))
theorem und58 :Try.prog.underlying 58=some (.struct #[(Field.mk "X" 26 0 false "" "" 0),(Field.mk "Y" 26 2 false "" "" 16),(Field.mk "Z" 26 4 false "" "" 32)]):=by kernel_rfl
theorem rd_58 :yI Try.prog 58 WC wfBox D_Box:=
 ZN (yR (fs:= #[(Field.mk "X" 26 0 false "" "" 0),(Field.mk "Y" 26 2 false "" "" 16),(Field.mk "Z" 26 4 false "" "" 32)]) und58 (zR (off:=0) qD2 (zR (off:=2) qD2 (zR (off:=4) qD2 (GC 6) rfl (by kernel_rfl)) rfl (by kernel_rfl)) rfl (by kernel_rfl)) (by kernel_rfl)) g_Box (fun _=>rfl) (fun _=>show 6=_ by kernel_rfl) (fun _ h=>h)
def qFu (r:qJ):Prop:=WF r.Kind/\wfBox r.Box/\True
def qJR :(Int×(Box×Unit))->qJ:=(λr:Int×(Box×Unit)=>qJ.mk r.1 r.2.1)
def qE1 :∀H:Type,DataW H->qJ->Prop:=NS qJR (NC (zP WN (zP D_Box RQ)))
theorem und122 :Try.prog.underlying 122=some (.struct #[(Field.mk "Kind" 3 0 false "" "" 0),(Field.mk "Box" 58 1 false "" "" 8)]):=by kernel_rfl
theorem rd_122 :yI Try.prog 122 qE qFu qE1:=
 ZN (yR (fs:= #[(Field.mk "Kind" 3 0 false "" "" 0),(Field.mk "Box" 58 1 false "" "" 8)]) und122 (zR (off:=0) rd_3 (zR (off:=1) rd_58 (GC 7) rfl (by kernel_rfl)) rfl (by kernel_rfl)) (by kernel_rfl)) qJR (fun _=>rfl) (fun _=>show 7=_ by kernel_rfl) (fun _ h=>h)
theorem rd_23 :yI Try.prog 23 (λl:List qJ=>[tl qE du l]) (λl:List qJ=>l.length<=maxLen/\∀x∈l,qFu x) (D_sl qE1):=
 GT (e:=122) (by kernel_rfl) (by kernel_rfl) (show 0<_ from ux (show 0<7 by decide) (by kernel_rfl)) rd_122
theorem rd_9 :yI Try.prog 9 e_str strok qEU:=qKP (by kernel_rfl) (by kernel_rfl)
theorem rd_76 :yI Try.prog 76 (λl:List Int=>[tl qL du l]) (λl:List Int=>l.length<=maxLen/\∀x∈l,WF x) (D_sl WN):=
 GT (e:=3) (by kernel_rfl) (by kernel_rfl) (show 0<_ from ux (show 0<1 by decide) (by kernel_rfl)) rd_3
def qDh (r:Product):Prop:=strok r.Name/\WF r.Thick/\WF r.Width/\WF r.Allow/\WF r.Wane/\(λl:List Int=>l.length<=maxLen/\∀x∈l,WF x) r.Lengths/\(λl:List Int=>l.length<=maxLen/\∀x∈l,WF x) r.Prices/\True
def qIU :(ByteArray×(Int×(Int×(Int×(Int×((List Int)×((List Int)×Unit)))))))->Product:=(λr:ByteArray×(Int×(Int×(Int×(Int×((List Int)×((List Int)×Unit))))))=>Product.mk r.1 r.2.1 r.2.2.1 r.2.2.2.1 r.2.2.2.2.1 r.2.2.2.2.2.1 r.2.2.2.2.2.2.1)
def qDf :∀H:Type,DataW H->Product->Prop:=NS qIU (NC (zP qEU (zP WN (zP WN (zP WN (zP WN (zP (D_sl WN) (zP (D_sl WN) RQ))))))))
theorem und114 :Try.prog.underlying 114=some (.struct #[(Field.mk "Name" 9 0 false "" "" 0),(Field.mk "Thick" 3 1 false "" "" 16),(Field.mk "Width" 3 2 false "" "" 24),(Field.mk "Allow" 3 3 false "" "" 32),(Field.mk "Wane" 3 4 false "" "" 40),(Field.mk "Lengths" 76 5 false "" "" 48),(Field.mk "Prices" 76 6 false "" "" 72)]):=by kernel_rfl
theorem rd_114 :yI Try.prog 114 qC qDh qDf:=
 ZN (yR (fs:= #[(Field.mk "Name" 9 0 false "" "" 0),(Field.mk "Thick" 3 1 false "" "" 16),(Field.mk "Width" 3 2 false "" "" 24),(Field.mk "Allow" 3 3 false "" "" 32),(Field.mk "Wane" 3 4 false "" "" 40),(Field.mk "Lengths" 76 5 false "" "" 48),(Field.mk "Prices" 76 6 false "" "" 72)]) und114 (zR (off:=0) rd_9 (zR (off:=1) rd_3 (zR (off:=2) rd_3 (zR (off:=3) rd_3 (zR (off:=4) rd_3 (zR (off:=5) rd_76 (zR (off:=6) rd_76 (GC 7) rfl (by kernel_rfl)) rfl (by kernel_rfl)) rfl (by kernel_rfl)) rfl (by kernel_rfl)) rfl (by kernel_rfl)) rfl (by kernel_rfl)) rfl (by kernel_rfl)) (by kernel_rfl)) qIU (fun _=>rfl) (fun _=>show 7=_ by kernel_rfl) (fun _ h=>h)
theorem rd_24 :yI Try.prog 24 (λl:List Product=>[tl qC du l]) (λl:List Product=>l.length<=maxLen/\∀x∈l,qDh x) (D_sl qDf):=
 GT (e:=114) (by kernel_rfl) (by kernel_rfl) (show 0<_ from ux (show 0<7 by decide) (by kernel_rfl)) rd_114
def qNo (r:Rect):Prop:=EZ r.X/\EZ r.Y/\True
def qNf :(Span×(Span×Unit))->Rect:=(λr:Span×(Span×Unit)=>Rect.mk r.1 r.2.1)
def qM3 :∀H:Type,DataW H->Rect->Prop:=NS qNf (NC (zP EI (zP EI RQ)))
theorem und28 :Try.prog.underlying 28=some (.struct #[(Field.mk "X" 26 0 false "" "" 0),(Field.mk "Y" 26 2 false "" "" 16)]):=by kernel_rfl
theorem rd_28 :yI Try.prog 28 qK qNo qM3:=
 ZN (yR (fs:= #[(Field.mk "X" 26 0 false "" "" 0),(Field.mk "Y" 26 2 false "" "" 16)]) und28 (zR (off:=0) qD2 (zR (off:=2) qD2 (GC 4) rfl (by kernel_rfl)) rfl (by kernel_rfl)) (by kernel_rfl)) qNf (fun _=>rfl) (fun _=>show 4=_ by kernel_rfl) (fun _ h=>h)
def qJ2 (r:Node):Prop:=WF r.Kind/\WF r.At/\True
def qNI :(Int×(Int×Unit))->Node:=(λr:Int×(Int×Unit)=>Node.mk r.1 r.2.1)
def qKj :∀H:Type,DataW H->Node->Prop:=NS qNI (NC (zP WN (zP WN RQ)))
theorem und117 :Try.prog.underlying 117=some (.struct #[(Field.mk "Kind" 3 0 false "" "" 0),(Field.mk "At" 3 1 false "" "" 8)]):=by kernel_rfl
theorem rd_117 :yI Try.prog 117 jS qJ2 qKj:=
 ZN (yR (fs:= #[(Field.mk "Kind" 3 0 false "" "" 0),(Field.mk "At" 3 1 false "" "" 8)]) und117 (zR (off:=0) rd_3 (zR (off:=1) rd_3 (GC 2) rfl (by kernel_rfl)) rfl (by kernel_rfl)) (by kernel_rfl)) qNI (fun _=>rfl) (fun _=>show 2=_ by kernel_rfl) (fun _ h=>h)
theorem rd_29 :yI Try.prog 29 (λl:List Node=>[tl jS du l]) (λl:List Node=>l.length<=maxLen/\∀x∈l,qJ2 x) (D_sl qKj):=
 GT (e:=117) (by kernel_rfl) (by kernel_rfl) (show 0<_ from ux (show 0<2 by decide) (by kernel_rfl)) rd_117
def qIy (r:Pattern):Prop:=qNo r.Frame/\(λl:List Node=>l.length<=maxLen/\∀x∈l,qJ2 x) r.Nodes/\True
def qIg :(Rect×((List Node)×Unit))->Pattern:=(λr:Rect×((List Node)×Unit)=>Pattern.mk r.1 r.2.1)
def qIR :∀H:Type,DataW H->Pattern->Prop:=NS qIg (NC (zP qM3 (zP (D_sl qKj) RQ)))
theorem und31 :Try.prog.underlying 31=some (.struct #[(Field.mk "Frame" 28 0 false "" "" 0),(Field.mk "Nodes" 29 4 false "" "" 32)]):=by kernel_rfl
theorem rd_31 :yI Try.prog 31 qN qIy qIR:=
 ZN (yR (fs:= #[(Field.mk "Frame" 28 0 false "" "" 0),(Field.mk "Nodes" 29 4 false "" "" 32)]) und31 (zR (off:=0) rd_28 (zR (off:=4) rd_29 (GC 5) rfl (by kernel_rfl)) rfl (by kernel_rfl)) (by kernel_rfl)) qIg (fun _=>rfl) (fun _=>show 5=_ by kernel_rfl) (fun _ h=>h)
def wfSaw (r:Saw):Prop:=WF r.Kerf/\WF r.Trim/\WF r.Pitch/\WF r.Step/\True
def g_Saw :(Int×(Int×(Int×(Int×Unit))))->Saw:=(λr:Int×(Int×(Int×(Int×Unit)))=>Saw.mk r.1 r.2.1 r.2.2.1 r.2.2.2.1)
def D_Saw :∀H:Type,DataW H->Saw->Prop:=NS g_Saw (NC (zP WN (zP WN (zP WN (zP WN RQ)))))
theorem und33 :Try.prog.underlying 33=some (.struct #[(Field.mk "Kerf" 3 0 false "" "" 0),(Field.mk "Trim" 3 1 false "" "" 8),(Field.mk "Pitch" 3 2 false "" "" 16),(Field.mk "Step" 3 3 false "" "" 24)]):=by kernel_rfl
theorem rd_33 :yI Try.prog 33 ZG wfSaw D_Saw:=
 ZN (yR (fs:= #[(Field.mk "Kerf" 3 0 false "" "" 0),(Field.mk "Trim" 3 1 false "" "" 8),(Field.mk "Pitch" 3 2 false "" "" 16),(Field.mk "Step" 3 3 false "" "" 24)]) und33 (zR (off:=0) rd_3 (zR (off:=1) rd_3 (zR (off:=2) rd_3 (zR (off:=3) rd_3 (GC 4) rfl (by kernel_rfl)) rfl (by kernel_rfl)) rfl (by kernel_rfl)) rfl (by kernel_rfl)) (by kernel_rfl)) g_Saw (fun _=>rfl) (fun _=>show 4=_ by kernel_rfl) (fun _ h=>h)
def qLt (r:Rates):Prop:=WF r.Chip/\WF r.Dust/\WF r.Fine/\True
def qLE :(Int×(Int×(Int×Unit)))->Rates:=(λr:Int×(Int×(Int×Unit))=>Rates.mk r.1 r.2.1 r.2.2.1)
def qL0 :∀H:Type,DataW H->Rates->Prop:=NS qLE (NC (zP WN (zP WN (zP WN RQ))))
theorem und35 :Try.prog.underlying 35=some (.struct #[(Field.mk "Chip" 3 0 false "" "" 0),(Field.mk "Dust" 3 1 false "" "" 8),(Field.mk "Fine" 3 2 false "" "" 16)]):=by kernel_rfl
theorem rd_35 :yI Try.prog 35 JO qLt qL0:=
 ZN (yR (fs:= #[(Field.mk "Chip" 3 0 false "" "" 0),(Field.mk "Dust" 3 1 false "" "" 8),(Field.mk "Fine" 3 2 false "" "" 16)]) und35 (zR (off:=0) rd_3 (zR (off:=1) rd_3 (zR (off:=2) rd_3 (GC 3) rfl (by kernel_rfl)) rfl (by kernel_rfl)) rfl (by kernel_rfl)) (by kernel_rfl)) qLE (fun _=>rfl) (fun _=>show 3=_ by kernel_rfl) (fun _ h=>h)
def qCI (r:qQ):Prop:=(λl:List qG=>l.length<=maxLen/\∀x∈l,qHo x) r.Solid/\(λl:List qJ=>l.length<=maxLen/\∀x∈l,qFu x) r.Defects/\(λl:List Product=>l.length<=maxLen/\∀x∈l,qDh x) r.Products/\qIy r.Pattern/\wfSaw r.Saw/\qLt r.Rates/\True
def qCJ :((List qG)×((List qJ)×((List Product)×(Pattern×(Saw×(Rates×Unit))))))->qQ:=(λr:(List qG)×((List qJ)×((List Product)×(Pattern×(Saw×(Rates×Unit)))))=>qQ.mk r.1 r.2.1 r.2.2.1 r.2.2.2.1 r.2.2.2.2.1 r.2.2.2.2.2.1)
def qCK :∀H:Type,DataW H->qQ->Prop:=NS qCJ (NC (zP (D_sl qHP) (zP (D_sl qE1) (zP (D_sl qDf) (zP qIR (zP D_Saw (zP qL0 RQ)))))))
theorem und37 :Try.prog.underlying 37=some (.struct #[(Field.mk "Solid" 22 0 false "" "" 0),(Field.mk "Defects" 23 1 false "" "" 24),(Field.mk "Products" 24 2 false "" "" 48),(Field.mk "Pattern" 31 3 false "" "" 72),(Field.mk "Saw" 33 8 false "" "" 128),(Field.mk "Rates" 35 12 false "" "" 160)]):=by kernel_rfl
theorem rd_37 :yI Try.prog 37 qZ qCI qCK:=
 ZN (yR (fs:= #[(Field.mk "Solid" 22 0 false "" "" 0),(Field.mk "Defects" 23 1 false "" "" 24),(Field.mk "Products" 24 2 false "" "" 48),(Field.mk "Pattern" 31 3 false "" "" 72),(Field.mk "Saw" 33 8 false "" "" 128),(Field.mk "Rates" 35 12 false "" "" 160)]) und37 (zR (off:=0) rd_22 (zR (off:=1) rd_23 (zR (off:=2) rd_24 (zR (off:=3) rd_31 (zR (off:=8) rd_33 (zR (off:=12) rd_35 (GC 15) rfl (by kernel_rfl)) rfl (by kernel_rfl)) rfl (by kernel_rfl)) rfl (by kernel_rfl)) rfl (by kernel_rfl)) rfl (by kernel_rfl)) (by kernel_rfl)) qCJ (fun _=>rfl) (fun _=>show 15=_ by kernel_rfl) (fun _ h=>h)
section
variable {H :Type} {enc:TypeId×Value->H} {w:World} {r:Reach} {b0:Nat} {v:Value} {d:DataW H} {ps:List MemPlace}
theorem open_37 (hval:Value.okWide Try.prog w r b0 37 v) (hd:DataW.Trod enc Try.prog w 0 (λ_=>true) true 37 v d ps):∃x,qCI x/\qCK H d x/\zC w (Mem.of λ_=>True) (.agg (qZ x)) v:=by
 obtain⟨x,h1,h2,h3⟩:=qHN rd_37 und37 hval hd;exact⟨x,h1,h2,h3⟩
end
theorem qOG {W:World}:NF globs W (λ_=>True):=λg c h=>by cases h
noncomputable def qDU (os:Os):World:=World.holding Try.prog os ⟨#[], #[],[]⟩
theorem laidOut :laidOutB Try.prog=true:=by kernel_rfl
theorem own :ownKnob Try.prog.godebug=none:=by kernel_rfl
end Saw
end Go.SL
