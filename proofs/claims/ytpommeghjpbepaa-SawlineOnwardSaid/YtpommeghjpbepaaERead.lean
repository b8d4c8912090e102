/- The readings of the laws' parameters. -/
import Derived.Test.YtpommeghjpbepaaEBase
import Derived.Test.YtpommeghjpbepaaYa6
import Derived.Test.YtpommeghjpbepaaRows
import Derived.Lib.LaidTab
set_option linter.unusedVariables false
set_option linter.unusedSimpArgs false
namespace Go.SL
namespace Saw
open Go.Proofs Go.RowKit Go.ChangeShapes Go.WideShapes
set_option maxRecDepth 100000
theorem rd_3 :wU Try.prog 3 qJ ZO ZN:=qLZ (by kernel_rfl) (by kernel_rfl)
def HW (r:Span):Prop:=ZO r.A/\ZO r.B/\True
def qLK :(Int×(Int×Unit))->Span:=(λr:Int×(Int×Unit)=>Span.mk r.1 r.2.1)
def HU :∀H:Type,DataW H->Span->Prop:=VK qLK (VZ (zK ZN (zK ZN XU)))
theorem und26 :Try.prog.underlying 26=some (.struct #[(Field.mk "A" 3 0 false "" "" 0),(Field.mk "B" 3 1 false "" "" 8)]):=by kernel_rfl
theorem qC5 :wU Try.prog 26 qN HW HU:=
 QB (jK (fs:= #[(Field.mk "A" 3 0 false "" "" 0),(Field.mk "B" 3 1 false "" "" 8)]) und26 (zL (off:=0) rd_3 (zL (off:=1) rd_3 (RZ 2) rfl (by kernel_rfl)) rfl (by kernel_rfl)) (by kernel_rfl)) qLK (fun _=>rfl) (fun _=>show 2=_ by kernel_rfl) (fun _ h=>h)
theorem rd_89 :wU Try.prog 89 (λl:List Span=>[tl qN du l]) (λl:List Span=>l.length<=maxLen/\∀x∈l,HW x) (D_sl HU):=
 PY (e:=26) (by kernel_rfl) (by kernel_rfl) (show 0<_ from ut (show 0<2 by decide) (by kernel_rfl)) qC5
def qHf (r:qP):Prop:=ZO r.Low/\(λl:List Span=>l.length<=maxLen/\∀x∈l,HW x) r.Rows/\True
def qHg :(Int×((List Span)×Unit))->qP:=(λr:Int×((List Span)×Unit)=>qP.mk r.1 r.2.1)
def qHC :∀H:Type,DataW H->qP->Prop:=VK qHg (VZ (zK ZN (zK (D_sl HU) XU)))
theorem und91 :Try.prog.underlying 91=some (.struct #[(Field.mk "Low" 3 0 false "" "" 0),(Field.mk "Rows" 89 1 false "" "" 8)]):=by kernel_rfl
theorem rd_91 :wU Try.prog 91 jR qHf qHC:=
 QB (jK (fs:= #[(Field.mk "Low" 3 0 false "" "" 0),(Field.mk "Rows" 89 1 false "" "" 8)]) und91 (zL (off:=0) rd_3 (zL (off:=1) rd_89 (RZ 2) rfl (by kernel_rfl)) rfl (by kernel_rfl)) (by kernel_rfl)) qHg (fun _=>rfl) (fun _=>show 2=_ by kernel_rfl) (fun _ h=>h)
def qGB (r:qG):Prop:=ZO r.Len/\qHf r.Sec/\True
def qKu :(Int×(qP×Unit))->qG:=(λr:Int×(qP×Unit)=>qG.mk r.1 r.2.1)
def qGP :∀H:Type,DataW H->qG->Prop:=VK qKu (VZ (zK ZN (zK qHC XU)))
theorem und93 :Try.prog.underlying 93=some (.struct #[(Field.mk "Len" 3 0 false "" "" 0),(Field.mk "Sec" 91 1 false "" "" 8)]):=by kernel_rfl
theorem rd_93 :wU Try.prog 93 qF qGB qGP:=
 QB (jK (fs:= #[(Field.mk "Len" 3 0 false "" "" 0),(Field.mk "Sec" 91 1 false "" "" 8)]) und93 (zL (off:=0) rd_3 (zL (off:=1) rd_91 (RZ 3) rfl (by kernel_rfl)) rfl (by kernel_rfl)) (by kernel_rfl)) qKu (fun _=>rfl) (fun _=>show 3=_ by kernel_rfl) (fun _ h=>h)
theorem rd_22 :wU Try.prog 22 (λl:List qG=>[tl qF du l]) (λl:List qG=>l.length<=maxLen/\∀x∈l,qGB x) (D_sl qGP):=
 PY (e:=93) (by kernel_rfl) (by kernel_rfl) (show 0<_ from ut (show 0<3 by decide) (by kernel_rfl)) rd_93
def wfBox (r:Box):Prop:=HW r.X/\HW r.Y/\HW r.Z/\True
def g_Box :(Span×(Span×(Span×Unit)))->Box:=(λr:Span×(Span×(Span×Unit))=>Box.mk r.1 r.2.1 r.2.2.1)
def D_Box :∀H:Type,DataW H->Box->Prop:=VK g_Box (VZ (zK HU (zK HU (zK HU XU))))
theorem und58 :Try.prog.underlying 58=some (.struct #[(Field.mk "X" 26 0 false "" "" 0),(Field.mk "Y" 26 2 false "" "" 16),(Field.mk "Z" 26 4 false "" "" 32)]):=by kernel_rfl
theorem rd_58 :wU Try.prog 58 WN wfBox D_Box:=
 QB (jK (fs:= #[(Field.mk "X" 26 0 false "" "" 0),(Field.mk "Y" 26 2 false "" "" 16),(Field.mk "Z" 26 4 false "" "" 32)]) und58 (zL (off:=0) qC5 (zL (off:=2) qC5 (zL (off:=4) qC5 (RZ 6) rfl (by kernel_rfl)) rfl (by kernel_rfl)) rfl (by kernel_rfl)) (by kernel_rfl)) g_Box (fun _=>rfl) (fun _=>show 6=_ by kernel_rfl) (fun _ h=>h)
def qEn (r:qH):Prop:=ZO r.Kind/\wfBox r.Box/\True
def qIP :(Int×(Box×Unit))->qH:=(λr:Int×(Box×Unit)=>qH.mk r.1 r.2.1)
def qDS :∀H:Type,DataW H->qH->Prop:=VK qIP (VZ (zK ZN (zK D_Box XU)))
theorem und122 :Try.prog.underlying 122=some (.struct #[(Field.mk "Kind" 3 0 false "" "" 0),(Field.mk "Box" 58 1 false "" "" 8)]):=by kernel_rfl
theorem rd_122 :wU Try.prog 122 qE qEn qDS:=
 QB (jK (fs:= #[(Field.mk "Kind" 3 0 false "" "" 0),(Field.mk "Box" 58 1 false "" "" 8)]) und122 (zL (off:=0) rd_3 (zL (off:=1) rd_58 (RZ 7) rfl (by kernel_rfl)) rfl (by kernel_rfl)) (by kernel_rfl)) qIP (fun _=>rfl) (fun _=>show 7=_ by kernel_rfl) (fun _ h=>h)
theorem rd_23 :wU Try.prog 23 (λl:List qH=>[tl qE du l]) (λl:List qH=>l.length<=maxLen/\∀x∈l,qEn x) (D_sl qDS):=
 PY (e:=122) (by kernel_rfl) (by kernel_rfl) (show 0<_ from ut (show 0<7 by decide) (by kernel_rfl)) rd_122
theorem rd_9 :wU Try.prog 9 e_str strok qEF:=qIN (by kernel_rfl) (by kernel_rfl)
theorem rd_76 :wU Try.prog 76 (λl:List Int=>[tl qJ du l]) (λl:List Int=>l.length<=maxLen/\∀x∈l,ZO x) (D_sl ZN):=
 PY (e:=3) (by kernel_rfl) (by kernel_rfl) (show 0<_ from ut (show 0<1 by decide) (by kernel_rfl)) rd_3
def qCo (r:Product):Prop:=strok r.Name/\ZO r.Thick/\ZO r.Width/\ZO r.Allow/\ZO r.Wane/\(λl:List Int=>l.length<=maxLen/\∀x∈l,ZO x) r.Lengths/\(λl:List Int=>l.length<=maxLen/\∀x∈l,ZO x) r.Prices/\True
def qHA :(ByteArray×(Int×(Int×(Int×(Int×((List Int)×((List Int)×Unit)))))))->Product:=(λr:ByteArray×(Int×(Int×(Int×(Int×((List Int)×((List Int)×Unit))))))=>Product.mk r.1 r.2.1 r.2.2.1 r.2.2.2.1 r.2.2.2.2.1 r.2.2.2.2.2.1 r.2.2.2.2.2.2.1)
def qCR :∀H:Type,DataW H->Product->Prop:=VK qHA (VZ (zK qEF (zK ZN (zK ZN (zK ZN (zK ZN (zK (D_sl ZN) (zK (D_sl ZN) XU))))))))
theorem und114 :Try.prog.underlying 114=some (.struct #[(Field.mk "Name" 9 0 false "" "" 0),(Field.mk "Thick" 3 1 false "" "" 16),(Field.mk "Width" 3 2 false "" "" 24),(Field.mk "Allow" 3 3 false "" "" 32),(Field.mk "Wane" 3 4 false "" "" 40),(Field.mk "Lengths" 76 5 false "" "" 48),(Field.mk "Prices" 76 6 false "" "" 72)]):=by kernel_rfl
theorem rd_114 :wU Try.prog 114 qD qCo qCR:=
 QB (jK (fs:= #[(Field.mk "Name" 9 0 false "" "" 0),(Field.mk "Thick" 3 1 false "" "" 16),(Field.mk "Width" 3 2 false "" "" 24),(Field.mk "Allow" 3 3 false "" "" 32),(Field.mk "Wane" 3 4 false "" "" 40),(Field.mk "Lengths" 76 5 false "" "" 48),(Field.mk "Prices" 76 6 false "" "" 72)]) und114 (zL (off:=0) rd_9 (zL (off:=1) rd_3 (zL (off:=2) rd_3 (zL (off:=3) rd_3 (zL (off:=4) rd_3 (zL (off:=5) rd_76 (zL (off:=6) rd_76 (RZ 7) rfl (by kernel_rfl)) rfl (by kernel_rfl)) rfl (by kernel_rfl)) rfl (by kernel_rfl)) rfl (by kernel_rfl)) rfl (by kernel_rfl)) rfl (by kernel_rfl)) (by kernel_rfl)) qHA (fun _=>rfl) (fun _=>show 7=_ by kernel_rfl) (fun _ h=>h)
theorem rd_24 :wU Try.prog 24 (λl:List Product=>[tl qD du l]) (λl:List Product=>l.length<=maxLen/\∀x∈l,qCo x) (D_sl qCR):=
 PY (e:=114) (by kernel_rfl) (by kernel_rfl) (show 0<_ from ut (show 0<7 by decide) (by kernel_rfl)) rd_114
def qMk (r:Rect):Prop:=HW r.X/\HW r.Y/\True
def qLz :(Span×(Span×Unit))->Rect:=(λr:Span×(Span×Unit)=>Rect.mk r.1 r.2.1)
def qLw :∀H:Type,DataW H->Rect->Prop:=VK qLz (VZ (zK HU (zK HU XU)))
theorem und28 :Try.prog.underlying 28=some (.struct #[(Field.mk "X" 26 0 false "" "" 0),(Field.mk "Y" 26 2 false "" "" 16)]):=by kernel_rfl
theorem rd_28 :wU Try.prog 28 qK qMk qLw:=
 QB (jK (fs:= #[(Field.mk "X" 26 0 false "" "" 0),(Field.mk "Y" 26 2 false "" "" 16)]) und28 (zL (off:=0) qC5 (zL (off:=2) qC5 (RZ 4) rfl (by kernel_rfl)) rfl (by kernel_rfl)) (by kernel_rfl)) qLz (fun _=>rfl) (fun _=>show 4=_ by kernel_rfl) (fun _ h=>h)
def qIB (r:Node):Prop:=ZO r.Kind/\ZO r.At/\True
def qMc :(Int×(Int×Unit))->Node:=(λr:Int×(Int×Unit)=>Node.mk r.1 r.2.1)
def qIn :∀H:Type,DataW H->Node->Prop:=VK qMc (VZ (zK ZN (zK ZN XU)))
theorem und117 :Try.prog.underlying 117=some (.struct #[(Field.mk "Kind" 3 0 false "" "" 0),(Field.mk "At" 3 1 false "" "" 8)]):=by kernel_rfl
theorem rd_117 :wU Try.prog 117 yH qIB qIn:=
 QB (jK (fs:= #[(Field.mk "Kind" 3 0 false "" "" 0),(Field.mk "At" 3 1 false "" "" 8)]) und117 (zL (off:=0) rd_3 (zL (off:=1) rd_3 (RZ 2) rfl (by kernel_rfl)) rfl (by kernel_rfl)) (by kernel_rfl)) qMc (fun _=>rfl) (fun _=>show 2=_ by kernel_rfl) (fun _ h=>h)
theorem rd_29 :wU Try.prog 29 (λl:List Node=>[tl yH du l]) (λl:List Node=>l.length<=maxLen/\∀x∈l,qIB x) (D_sl qIn):=
 PY (e:=117) (by kernel_rfl) (by kernel_rfl) (show 0<_ from ut (show 0<2 by decide) (by kernel_rfl)) rd_117
def qGY (r:Pattern):Prop:=qMk r.Frame/\(λl:List Node=>l.length<=maxLen/\∀x∈l,qIB x) r.Nodes/\True
def qHi :(Rect×((List Node)×Unit))->Pattern:=(λr:Rect×((List Node)×Unit)=>Pattern.mk r.1 r.2.1)
def qHb :∀H:Type,DataW H->Pattern->Prop:=VK qHi (VZ (zK qLw (zK (D_sl qIn) XU)))
theorem und31 :Try.prog.underlying 31=some (.struct #[(Field.mk "Frame" 28 0 false "" "" 0),(Field.mk "Nodes" 29 4 false "" "" 32)]):=by kernel_rfl
theorem rd_31 :wU Try.prog 31 qO qGY qHb:=
 QB (jK (fs:= #[(Field.mk "Frame" 28 0 false "" "" 0),(Field.mk "Nodes" 29 4 false "" "" 32)]) und31 (zL (off:=0) rd_28 (zL (off:=4) rd_29 (RZ 5) rfl (by kernel_rfl)) rfl (by kernel_rfl)) (by kernel_rfl)) qHi (fun _=>rfl) (fun _=>show 5=_ by kernel_rfl) (fun _ h=>h)
def wfSaw (r:Saw):Prop:=ZO r.Kerf/\ZO r.Trim/\ZO r.Pitch/\ZO r.Step/\True
def g_Saw :(Int×(Int×(Int×(Int×Unit))))->Saw:=(λr:Int×(Int×(Int×(Int×Unit)))=>Saw.mk r.1 r.2.1 r.2.2.1 r.2.2.2.1)
def D_Saw :∀H:Type,DataW H->Saw->Prop:=VK g_Saw (VZ (zK ZN (zK ZN (zK ZN (zK ZN XU)))))
theorem und33 :Try.prog.underlying 33=some (.struct #[(Field.mk "Kerf" 3 0 false "" "" 0),(Field.mk "Trim" 3 1 false "" "" 8),(Field.mk "Pitch" 3 2 false "" "" 16),(Field.mk "Step" 3 3 false "" "" 24)]):=by kernel_rfl
theorem rd_33 :wU Try.prog 33 OU wfSaw D_Saw:=
 QB (jK (fs:= #[(Field.mk "Kerf" 3 0 false "" "" 0),(Field.mk "Trim" 3 1 false "" "" 8),(Field.mk "Pitch" 3 2 false "" "" 16),(Field.mk "Step" 3 3 false "" "" 24)]) und33 (zL (off:=0) rd_3 (zL (off:=1) rd_3 (zL (off:=2) rd_3 (zL (off:=3) rd_3 (RZ 4) rfl (by kernel_rfl)) rfl (by kernel_rfl)) rfl (by kernel_rfl)) rfl (by kernel_rfl)) (by kernel_rfl)) g_Saw (fun _=>rfl) (fun _=>show 4=_ by kernel_rfl) (fun _ h=>h)
def qKn (r:Rates):Prop:=ZO r.Chip/\ZO r.Dust/\ZO r.Fine/\True
def qKm :(Int×(Int×(Int×Unit)))->Rates:=(λr:Int×(Int×(Int×Unit))=>Rates.mk r.1 r.2.1 r.2.2.1)
def qJ9 :∀H:Type,DataW H->Rates->Prop:=VK qKm (VZ (zK ZN (zK ZN (zK ZN XU))))
theorem und35 :Try.prog.underlying 35=some (.struct #[(Field.mk "Chip" 3 0 false "" "" 0),(Field.mk "Dust" 3 1 false "" "" 8),(Field.mk "Fine" 3 2 false "" "" 16)]):=by kernel_rfl
theorem rd_35 :wU Try.prog 35 DZ qKn qJ9:=
 QB (jK (fs:= #[(Field.mk "Chip" 3 0 false "" "" 0),(Field.mk "Dust" 3 1 false "" "" 8),(Field.mk "Fine" 3 2 false "" "" 16)]) und35 (zL (off:=0) rd_3 (zL (off:=1) rd_3 (zL (off:=2) rd_3 (RZ 3) rfl (by kernel_rfl)) rfl (by kernel_rfl)) rfl (by kernel_rfl)) (by kernel_rfl)) qKm (fun _=>rfl) (fun _=>show 3=_ by kernel_rfl) (fun _ h=>h)
def qBJ (r:qQ):Prop:=(λl:List qG=>l.length<=maxLen/\∀x∈l,qGB x) r.Solid/\(λl:List qH=>l.length<=maxLen/\∀x∈l,qEn x) r.Defects/\(λl:List Product=>l.length<=maxLen/\∀x∈l,qCo x) r.Products/\qGY r.Pattern/\wfSaw r.Saw/\qKn r.Rates/\True
def qBF :((List qG)×((List qH)×((List Product)×(Pattern×(Saw×(Rates×Unit))))))->qQ:=(λr:(List qG)×((List qH)×((List Product)×(Pattern×(Saw×(Rates×Unit)))))=>qQ.mk r.1 r.2.1 r.2.2.1 r.2.2.2.1 r.2.2.2.2.1 r.2.2.2.2.2.1)
def qBK :∀H:Type,DataW H->qQ->Prop:=VK qBF (VZ (zK (D_sl qGP) (zK (D_sl qDS) (zK (D_sl qCR) (zK qHb (zK D_Saw (zK qJ9 XU)))))))
theorem und37 :Try.prog.underlying 37=some (.struct #[(Field.mk "Solid" 22 0 false "" "" 0),(Field.mk "Defects" 23 1 false "" "" 24),(Field.mk "Products" 24 2 false "" "" 48),(Field.mk "Pattern" 31 3 false "" "" 72),(Field.mk "Saw" 33 8 false "" "" 128),(Field.mk "Rates" 35 12 false "" "" 160)]):=by kernel_rfl
theorem rd_37 :wU Try.prog 37 qX qBJ qBK:=
 QB (jK (fs:= #[(Field.mk "Solid" 22 0 false "" "" 0),(Field.mk "Defects" 23 1 false "" "" 24),(Field.mk "Products" 24 2 false "" "" 48),(Field.mk "Pattern" 31 3 false "" "" 72),(Field.mk "Saw" 33 8 false "" "" 128),(Field.mk "Rates" 35 12 false "" "" 160)]) und37 (zL (off:=0) rd_22 (zL (off:=1) rd_23 (zL (off:=2) rd_24 (zL (off:=3) rd_31 (zL (off:=8) rd_33 (zL (off:=12) rd_35 (RZ 15) rfl (by kernel_rfl)) rfl (by kernel_rfl)) rfl (by kernel_rfl)) rfl (by kernel_rfl)) rfl (by kernel_rfl)) rfl (by kernel_rfl)) (by kernel_rfl)) qBF (fun _=>rfl) (fun _=>show 15=_ by kernel_rfl) (fun _ h=>h)
theorem rd_4 :wU Try.prog 4 qLF (λ_=>True) qI0:=qKK (by kernel_rfl) (by kernel_rfl)
def IM (r:zG):Prop:=ZO r.Shift/\(λ_=>True) r.Stop/\True
def qCp :(Int×(Bool×Unit))->zG:=(λr:Int×(Bool×Unit)=>zG.mk r.1 r.2.1)
def AD :∀H:Type,DataW H->zG->Prop:=VK qCp (VZ (zK ZN (zK qI0 XU)))
theorem und46 :Try.prog.underlying 46=some (.struct #[(Field.mk "Shift" 3 0 false "" "" 0),(Field.mk "Stop" 4 1 false "" "" 8)]):=by kernel_rfl
theorem rd_46 :wU Try.prog 46 yF IM AD:=
 QB (jK (fs:= #[(Field.mk "Shift" 3 0 false "" "" 0),(Field.mk "Stop" 4 1 false "" "" 8)]) und46 (zL (off:=0) rd_3 (zL (off:=1) rd_4 (RZ 2) rfl (by kernel_rfl)) rfl (by kernel_rfl)) (by kernel_rfl)) qCp (fun _=>rfl) (fun _=>show 2=_ by kernel_rfl) (fun _ h=>h)
theorem rd_38 :wU Try.prog 38 (λl:List zG=>[tl yF du l]) (λl:List zG=>l.length<=maxLen/\∀x∈l,IM x) (D_sl AD):=
 PY (e:=46) (by kernel_rfl) (by kernel_rfl) (show 0<_ from ut (show 0<2 by decide) (by kernel_rfl)) rd_46
theorem und38 :Try.prog.underlying 38=some (.slice 46):=by kernel_rfl
section
variable {H :Type} {enc:TypeId×Value->H} {w:World} {r:Reach} {b0:Nat} {v:Value} {d:DataW H} {ps:List MemPlace}
theorem open_37 (hval:Value.okWide Try.prog w r b0 37 v) (hd:DataW.Trod enc Try.prog w 0 (λ_=>true) true 37 v d ps):∃x,qBJ x/\qBK H d x/\zA w (Mem.of λ_=>True) (.agg (qX x)) v:=by
 obtain⟨x,h1,h2,h3⟩:=qGR rd_37 und37 hval hd;exact⟨x,h1,h2,h3⟩
theorem open_38 (hval:Value.okWide Try.prog w r b0 38 v) (hd:DataW.Trod enc Try.prog w 0 (λ_=>true) true 38 v d ps):∃x:List zG,(x.length<=maxLen/\∀y∈x,IM y)/\D_sl AD H d x/\zA w (Mem.of λ_=>True) (.one (tl yF du x)) v:=by
 obtain⟨x,h1,h2,h3⟩:=qH0 rd_38 und38 hval hd;exact⟨x,h1,h2,h3⟩
end
theorem qM3 {W:World}:DX globs W (λ_=>True):=λg c h=>by cases h
noncomputable def qCh (os:Os):World:=World.holding Try.prog os ⟨#[], #[],[]⟩
theorem laidOut :laidOutB Try.prog=true:=by kernel_rfl
theorem own :ownKnob Try.prog.godebug=none:=by kernel_rfl
end Saw
end Go.SL
