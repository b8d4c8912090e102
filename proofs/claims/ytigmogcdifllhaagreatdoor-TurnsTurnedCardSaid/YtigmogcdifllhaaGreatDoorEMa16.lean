/- The example of the chapter: the turned beam, and all but its lines. -/
import Derived.Test.YtigmogcdifllhaaGreatDoorEMa15
set_option linter.unusedVariables false
set_option linter.unusedSimpArgs false
namespace Go.SL.Saw
theorem place_0 :wU bm 0 200 2=some (sl0,[],0):=by kernel_rfl
theorem qW6 :wU bm 1 200 2=some (sl1,[],0):=by kernel_rfl
theorem place_2 :wU bm 2 200 2=some (sl0,[],0):=by kernel_rfl
theorem place_3 :wU bm 3 200 2=some (sl1,[],0):=by kernel_rfl
theorem fr_0 :KU sl0=some f0:=by kernel_rfl
theorem fr_1 :KU sl1=some f1:=by kernel_rfl
theorem ck_0 :UK sl0 [] c25 f0 w25 r25=some 0:=by kernel_rfl
theorem ck_1 :UK sl1 [] c25 f1 w25 r25=some 0:=by kernel_rfl
theorem rest_0 :JC f0 (LP0,[[nd0,[],[],[],[],[],[],[],[],[],nd0],[]]) ([⟨0,0⟩],80000000,0) FUEL [] [] 0=some ([⟨-30,20⟩],[nd0]):=by kernel_rfl
theorem rest_1 :JC f1 (LP1,[List.replicate 71 ([]:List Node),[nd1,[],[],[],[],[],[],[],[],[],nd1,[],[],[],[],[],[],[],[],[],nd1]]) ([⟨1,0⟩],80000000,0) FUEL [] [] 0=some ([⟨-60,40⟩],[nd1]):=by kernel_rfl
theorem row_0 :WL f0 3 4 [⟨-30,20⟩] [nd0]=some (pt0,0):=by kernel_rfl
theorem row_1 :WL f1 3 4 [⟨-60,40⟩] [nd1]=some (pt1,0):=by kernel_rfl
theorem vol_0 :XC sl0=some 21600000:=by kernel_rfl
theorem vol_1 :XC sl1=some 21600000:=by kernel_rfl
theorem whole_0 :PD sl0 f0=some 21600000:=by kernel_rfl
theorem whole_1 :PD sl1 f1=some 21600000:=by kernel_rfl
theorem short_0 :yY ⟨[],[]⟩ c25 w25 r25 200 2=some (⟨0,⟨⟨⟨0,0⟩,⟨0,0⟩⟩,[]⟩,0⟩,3):=by kernel_rfl
end Go.SL.Saw

namespace Go.SL.Saw
theorem cut_0 :jV LP0=some ([⟨0,0⟩],80000000,0):=by kernel_rfl
end Go.SL.Saw
