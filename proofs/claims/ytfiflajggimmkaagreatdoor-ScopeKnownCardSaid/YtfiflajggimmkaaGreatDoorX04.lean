/- A part of the proof of 'ScopeKnownCardSaid': the compiled functions, the answers found by evaluation, and what follows of them. There is no further condition. -/
import Derived.Test.YtfiflajggimmkaaGreatDoorX03
namespace Xv.Sk
open Xv
set_option maxRecDepth 100000
def cf3 : CF := ⟨3, true, (.seq (.reg [
  ⟨some (.p2 .d0 .d0), (.mv (.k (.bool false))), none⟩]) (.seq (.seq (.reg [
  ⟨some (.p2 .d1 .d7), (.bslice 3 1 2 [(.i (.ofNat 0))] [(0, (.k (.i (.ofNat 13)))), (1, (.k (.i (.ofNat 20))))]), none⟩,
  ⟨some (.p2 .d1 .d8), (.call ⟨4, .d0, .d0, .d4⟩ [(.k (.str 27 51474170284766549844335836598626256995563824890317041158838973798)), (.t (.p2 .d1 .d7))]), none⟩,
  ⟨some (.p2 .d1 .d9), (.not (.t (.p2 .d1 .d8))), none⟩,
  ⟨some (.p2 .d1 .d10), (.mv (.t (.p2 .d1 .d9))), none⟩,
  ⟨some (.p2 .d1 .d11), (.bslice 3 1 2 [(.i (.ofNat 0))] [(0, (.k (.i (.ofNat 12)))), (1, (.k (.i (.ofNat 7))))]), some ((.p2 .d1 .d10), false)⟩,
  ⟨some (.p2 .d1 .d12), (.call ⟨4, .d0, .d0, .d4⟩ [(.k (.str 10 162647401591328505621865)), (.t (.p2 .d1 .d11))]), some ((.p2 .d1 .d10), false)⟩,
  ⟨some (.p2 .d1 .d13), (.not (.t (.p2 .d1 .d12))), some ((.p2 .d1 .d10), false)⟩,
  ⟨some (.p2 .d1 .d14), (.pick (.t (.p2 .d1 .d10)) (.k (.bool true)) (.t (.p2 .d1 .d13))), none⟩,
  ⟨some (.p2 .d1 .d15), (.mv (.t (.p2 .d1 .d14))), none⟩,
  ⟨some (.p2 .d2 .d0), (.bslice 3 1 2 [(.i (.ofNat 0))] [(0, (.k (.i (.ofNat 16)))), (1, (.k (.i (.ofNat 7))))]), some ((.p2 .d1 .d15), false)⟩,
  ⟨some (.p2 .d2 .d1), (.call ⟨4, .d0, .d0, .d4⟩ [(.k (.str 10 162628954847254796070249)), (.t (.p2 .d2 .d0))]), some ((.p2 .d1 .d15), false)⟩,
  ⟨some (.p2 .d2 .d2), (.not (.t (.p2 .d2 .d1))), some ((.p2 .d1 .d15), false)⟩,
  ⟨some (.p2 .d2 .d3), (.pick (.t (.p2 .d1 .d15)) (.k (.bool true)) (.t (.p2 .d2 .d2))), none⟩,
  ⟨some (.p2 .d2 .d4), (.mv (.t (.p2 .d2 .d3))), none⟩,
  ⟨some (.p2 .d2 .d5), (.bslice 3 1 4 [(.i (.ofNat 0))] [(0, (.k (.i (.ofNat 26)))), (1, (.k (.i (.ofNat 11)))), (2, (.k (.i (.ofNat 38)))), (3, (.k (.i (.negSucc 0))))]), some ((.p2 .d2 .d4), false)⟩,
  ⟨some (.p2 .d2 .d6), (.call ⟨4, .d0, .d0, .d4⟩ [(.k (.str 41 267269293106153183954552886826209547398483096875472137327055358377764755728868289847521526475027814)), (.t (.p2 .d2 .d5))]), some ((.p2 .d2 .d4), false)⟩,
  ⟨some (.p2 .d2 .d7), (.not (.t (.p2 .d2 .d6))), some ((.p2 .d2 .d4), false)⟩,
  ⟨some (.p2 .d2 .d8), (.pick (.t (.p2 .d2 .d4)) (.k (.bool true)) (.t (.p2 .d2 .d7))), none⟩,
  ⟨some (.p2 .d2 .d9), (.mv (.t (.p2 .d2 .d8))), none⟩,
  ⟨some (.p2 .d2 .d10), (.bslice 3 1 2 [(.i (.ofNat 0))] [(0, (.k (.i (.ofNat 13)))), (1, (.k (.i (.ofNat 36))))]), some ((.p2 .d2 .d9), false)⟩,
  ⟨some (.p2 .d2 .d11), (.call ⟨4, .d0, .d0, .d4⟩ [(.k (.str 42 68614579894703377939755285723918238989411849776904432194513517989969863402369986088067414641072961908)), (.t (.p2 .d2 .d10))]), some ((.p2 .d2 .d9), false)⟩,
  ⟨some (.p2 .d2 .d12), (.not (.t (.p2 .d2 .d11))), some ((.p2 .d2 .d9), false)⟩,
  ⟨some (.p2 .d2 .d13), (.pick (.t (.p2 .d2 .d9)) (.k (.bool true)) (.t (.p2 .d2 .d12))), none⟩,
  ⟨some (.p2 .d2 .d14), (.mv (.t (.p2 .d2 .d13))), none⟩,
  ⟨some (.p2 .d2 .d15), (.bslice 3 1 2 [(.i (.ofNat 0))] [(0, (.k (.i (.ofNat 13)))), (1, (.k (.i (.ofNat 18))))]), some ((.p2 .d2 .d14), false)⟩,
  ⟨some (.p2 .d3 .d0), (.call ⟨4, .d0, .d0, .d4⟩ [(.k (.str 29 3382960096334647078043951290598648930106209846636054021010361685013862)), (.t (.p2 .d2 .d15))]), some ((.p2 .d2 .d14), false)⟩,
  ⟨some (.p2 .d3 .d1), (.not (.t (.p2 .d3 .d0))), some ((.p2 .d2 .d14), false)⟩,
  ⟨some (.p2 .d3 .d2), (.pick (.t (.p2 .d2 .d14)) (.k (.bool true)) (.t (.p2 .d3 .d1))), none⟩]) (.cond (.t (.p2 .d3 .d2)) (.seq (.reg [
  ⟨some (.p2 .d0 .d0), (.mv (.k (.bool false))), none⟩]) .ret) .skip)) (.seq (.seq (.reg [
  ⟨some (.p2 .d3 .d3), (.bslice 3 1 8 [(.i (.ofNat 0))] [(0, (.k (.i (.ofNat 20)))), (1, (.k (.i (.negSucc 0)))), (2, (.k (.i (.ofNat 23)))), (3, (.k (.i (.ofNat 15)))), (4, (.k (.i (.ofNat 26)))), (5, (.k (.i (.ofNat 15)))), (6, (.k (.i (.ofNat 39)))), (7, (.k (.i (.ofNat 15))))]), none⟩,
  ⟨some (.p2 .d3 .d4), (.call ⟨4, .d0, .d0, .d4⟩ [(.k (.str 44 4484037394653837838356948408052482284125321441124457436592318624135094588810434740537752551414596763546982)), (.t (.p2 .d3 .d3))]), none⟩,
  ⟨some (.p2 .d3 .d5), (.not (.t (.p2 .d3 .d4))), none⟩,
  ⟨some (.p2 .d3 .d6), (.mv (.t (.p2 .d3 .d5))), none⟩,
  ⟨some (.p2 .d3 .d7), (.bslice 3 1 6 [(.i (.ofNat 0))] [(0, (.k (.i (.ofNat 9)))), (1, (.k (.i (.ofNat 5)))), (2, (.k (.i (.ofNat 12)))), (3, (.k (.i (.ofNat 5)))), (4, (.k (.i (.ofNat 23)))), (5, (.k (.i (.ofNat 7))))]), some ((.p2 .d3 .d6), false)⟩,
  ⟨some (.p2 .d3 .d8), (.call ⟨4, .d0, .d0, .d4⟩ [(.k (.str 26 201070185568227331555129111910894972452636177984422979432248678)), (.t (.p2 .d3 .d7))]), some ((.p2 .d3 .d6), false)⟩,
  ⟨some (.p2 .d3 .d9), (.not (.t (.p2 .d3 .d8))), some ((.p2 .d3 .d6), false)⟩,
  ⟨some (.p2 .d3 .d10), (.pick (.t (.p2 .d3 .d6)) (.k (.bool true)) (.t (.p2 .d3 .d9))), none⟩,
  ⟨some (.p2 .d3 .d11), (.mv (.t (.p2 .d3 .d10))), none⟩,
  ⟨some (.p2 .d3 .d12), (.bslice 3 1 2 [(.i (.ofNat 0))] [(0, (.k (.i (.ofNat 13)))), (1, (.k (.i (.ofNat 20))))]), some ((.p2 .d3 .d11), false)⟩,
  ⟨some (.p2 .d3 .d13), (.call ⟨4, .d0, .d0, .d4⟩ [(.k (.str 33 14488706245941129440909279144999942750911528269330702951169356244244335598400870)), (.t (.p2 .d3 .d12))]), some ((.p2 .d3 .d11), false)⟩,
  ⟨some (.p2 .d3 .d14), (.not (.t (.p2 .d3 .d13))), some ((.p2 .d3 .d11), false)⟩,
  ⟨some (.p2 .d3 .d15), (.pick (.t (.p2 .d3 .d11)) (.k (.bool true)) (.t (.p2 .d3 .d14))), none⟩,
  ⟨some (.p2 .d4 .d0), (.mv (.t (.p2 .d3 .d15))), none⟩,
  ⟨some (.p2 .d4 .d1), (.bslice 3 1 4 [(.i (.ofNat 0))] [(0, (.k (.i (.ofNat 11)))), (1, (.k (.i (.negSucc 0)))), (2, (.k (.i (.ofNat 15)))), (3, (.k (.i (.negSucc 0))))]), some ((.p2 .d4 .d0), false)⟩,
  ⟨some (.p2 .d4 .d2), (.call ⟨4, .d0, .d0, .d4⟩ [(.k (.str 22 46815512271257431683493671518092611632489153661138278)), (.t (.p2 .d4 .d1))]), some ((.p2 .d4 .d0), false)⟩,
  ⟨some (.p2 .d4 .d3), (.not (.t (.p2 .d4 .d2))), some ((.p2 .d4 .d0), false)⟩,
  ⟨some (.p2 .d4 .d4), (.pick (.t (.p2 .d4 .d0)) (.k (.bool true)) (.t (.p2 .d4 .d3))), none⟩]) (.cond (.t (.p2 .d4 .d4)) (.seq (.reg [
  ⟨some (.p2 .d0 .d0), (.mv (.k (.bool false))), none⟩]) .ret) .skip)) (.seq (.reg [
  ⟨some (.p2 .d4 .d5), (.build [(.str 0 0), (.str 0 0), (.i (.ofNat 0))] [(0, 1, (.k (.str 14 2259522320544581588341771545110886))), (1, 1, (.k (.str 66 429481059196522451481448475530574090419168701875183885962794224706934445838307184284868787938836557071371477852237074196324331040178572486334239993990754820464)))]), none⟩,
  ⟨some (.p2 .d4 .d6), (.build [(.str 0 0), (.str 0 0), (.i (.ofNat 0))] [(0, 1, (.k (.str 14 2259522320544600035085845254662502))), (1, 1, (.k (.str 43 17515683497169964053587525502323986882888303926476153333372166708383132923032058203207314164648429969776)))]), none⟩,
  ⟨some (.p2 .d4 .d7), (.bslice 24 3 2 [(.str 0 0), (.str 0 0), (.i (.ofNat 0))] [(0, (.t (.p2 .d4 .d5))), (1, (.t (.p2 .d4 .d6)))]), none⟩,
  ⟨some (.p2 .d0 .d1), (.mv (.t (.p2 .d4 .d7))), none⟩]) (.seq (.reg [
  ⟨some (.p2 .d4 .d9), (.mv (.t (.p2 .d0 .d1))), none⟩,
  ⟨some (.p2 .d4 .d10), (.call ⟨5, .d0, .d0, .d5⟩ [(.t (.p2 .d4 .d9))]), none⟩,
  ⟨some (.p2 .d4 .d8), (.mv (.t (.p2 .d4 .d10))), none⟩,
  ⟨some (.p2 .d4 .d11), (.ext (.t (.p2 .d4 .d8)) 0), none⟩,
  ⟨some (.p2 .d4 .d12), (.ext (.t (.p2 .d4 .d8)) 1), none⟩,
  ⟨some (.p2 .d0 .d3), (.alloc 29 [(.i (.ofNat 0)), (.i (.ofNat 0)), (.i (.ofNat 0))]), none⟩,
  ⟨some (.p2 .d0 .d2), (.mv (.t (.p2 .d4 .d11))), none⟩,
  ⟨none, (.st 3 (.t (.p2 .d0 .d3)) (.t (.p2 .d4 .d12))), none⟩]) (.seq (.seq (.reg [
  ⟨some (.p2 .d4 .d13), (.fa (.t (.p2 .d0 .d3)) 2), none⟩,
  ⟨some (.p2 .d4 .d14), (.ld1 (.t (.p2 .d4 .d13))), none⟩,
  ⟨some (.p2 .d4 .d15), (.neq (.cell (.int .i64)) (.t (.p2 .d4 .d14)) (.k (.i (.ofNat 0)))), none⟩]) (.cond (.t (.p2 .d4 .d15)) (.seq (.reg [
  ⟨some (.p2 .d0 .d0), (.mv (.k (.bool false))), none⟩]) .ret) .skip)) (.seq (.reg [
  ⟨some (.p2 .d5 .d0), (.mv (.t (.p2 .d0 .d2))), none⟩,
  ⟨some (.p2 .d5 .d1), (.call ⟨6, .d0, .d0, .d6⟩ [(.t (.p2 .d5 .d0))]), none⟩,
  ⟨some (.p2 .d0 .d4), (.mv (.t (.p2 .d5 .d1))), none⟩]) (.seq (.seq (.reg [
  ⟨some (.p2 .d5 .d2), (.mv (.t (.p2 .d0 .d4))), none⟩,
  ⟨some (.p2 .d5 .d3), (.len 1 (.t (.p2 .d5 .d2))), none⟩,
  ⟨some (.p2 .d5 .d4), (.neq (.cell (.int .i64)) (.t (.p2 .d5 .d3)) (.k (.i (.ofNat 8)))), none⟩,
  ⟨some (.p2 .d5 .d5), (.mv (.t (.p2 .d5 .d4))), none⟩,
  ⟨some (.p2 .d5 .d6), (.mv (.t (.p2 .d0 .d4))), some ((.p2 .d5 .d5), false)⟩,
  ⟨some (.p2 .d5 .d7), (.ia 9 (.t (.p2 .d5 .d6)) (.k (.i (.ofNat 1)))), some ((.p2 .d5 .d5), false)⟩,
  ⟨some (.p2 .d5 .d8), (.fa (.t (.p2 .d5 .d7)) 4), some ((.p2 .d5 .d5), false)⟩,
  ⟨some (.p2 .d5 .d9), (.ldn 5 (.t (.p2 .d5 .d8))), some ((.p2 .d5 .d5), false)⟩,
  ⟨some (.p2 .d5 .d10), (.build [(.i (.ofNat 0)), (.str 0 0), (.i (.ofNat 0)), (.i (.ofNat 0)), (.str 0 0)] [(0, 1, (.k (.i (.ofNat 3)))), (1, 1, (.k (.str 1 71))), (2, 1, (.k (.i (.ofNat 1)))), (3, 1, (.k (.i (.ofNat 15)))), (4, 1, (.k (.str 1 113)))]), some ((.p2 .d5 .d5), false)⟩,
  ⟨some (.p2 .d5 .d11), (.neq (.strct [(.int .i64), .str, (.int .i64), (.int .i64), .str]) (.t (.p2 .d5 .d9)) (.t (.p2 .d5 .d10))), some ((.p2 .d5 .d5), false)⟩,
  ⟨some (.p2 .d5 .d12), (.pick (.t (.p2 .d5 .d5)) (.k (.bool true)) (.t (.p2 .d5 .d11))), none⟩,
  ⟨some (.p2 .d5 .d13), (.mv (.t (.p2 .d5 .d12))), none⟩,
  ⟨some (.p2 .d5 .d14), (.mv (.t (.p2 .d0 .d4))), some ((.p2 .d5 .d13), false)⟩,
  ⟨some (.p2 .d5 .d15), (.ia 9 (.t (.p2 .d5 .d14)) (.k (.i (.ofNat 3)))), some ((.p2 .d5 .d13), false)⟩,
  ⟨some (.p2 .d6 .d0), (.fa (.t (.p2 .d5 .d15)) 3), some ((.p2 .d5 .d13), false)⟩,
  ⟨some (.p2 .d6 .d1), (.ld1 (.t (.p2 .d6 .d0))), some ((.p2 .d5 .d13), false)⟩,
  ⟨some (.p2 .d6 .d2), (.pick (.t (.p2 .d5 .d13)) (.k (.bool true)) (.t (.p2 .d6 .d1))), none⟩,
  ⟨some (.p2 .d6 .d3), (.mv (.t (.p2 .d6 .d2))), none⟩,
  ⟨some (.p2 .d6 .d4), (.mv (.t (.p2 .d0 .d4))), some ((.p2 .d6 .d3), false)⟩,
  ⟨some (.p2 .d6 .d5), (.ia 9 (.t (.p2 .d6 .d4)) (.k (.i (.ofNat 3)))), some ((.p2 .d6 .d3), false)⟩,
  ⟨some (.p2 .d6 .d6), (.fa (.t (.p2 .d6 .d5)) 2), some ((.p2 .d6 .d3), false)⟩,
  ⟨some (.p2 .d6 .d7), (.ld1 (.t (.p2 .d6 .d6))), some ((.p2 .d6 .d3), false)⟩,
  ⟨some (.p2 .d6 .d8), (.neq (.cell .str) (.t (.p2 .d6 .d7)) (.k (.str 1 103))), some ((.p2 .d6 .d3), false)⟩,
  ⟨some (.p2 .d6 .d9), (.pick (.t (.p2 .d6 .d3)) (.k (.bool true)) (.t (.p2 .d6 .d8))), none⟩,
  ⟨some (.p2 .d6 .d10), (.mv (.t (.p2 .d6 .d9))), none⟩,
  ⟨some (.p2 .d6 .d11), (.mv (.t (.p2 .d0 .d4))), some ((.p2 .d6 .d10), false)⟩,
  ⟨some (.p2 .d6 .d12), (.ia 9 (.t (.p2 .d6 .d11)) (.k (.i (.ofNat 5)))), some ((.p2 .d6 .d10), false)⟩,
  ⟨some (.p2 .d6 .d13), (.fa (.t (.p2 .d6 .d12)) 4), some ((.p2 .d6 .d10), false)⟩,
  ⟨some (.p2 .d6 .d14), (.fa (.t (.p2 .d6 .d13)) 0), some ((.p2 .d6 .d10), false)⟩,
  ⟨some (.p2 .d6 .d15), (.ld1 (.t (.p2 .d6 .d14))), some ((.p2 .d6 .d10), false)⟩,
  ⟨some (.p2 .d7 .d0), (.neq (.cell (.int .i64)) (.t (.p2 .d6 .d15)) (.k (.i (.ofNat 2)))), some ((.p2 .d6 .d10), false)⟩,
  ⟨some (.p2 .d7 .d1), (.pick (.t (.p2 .d6 .d10)) (.k (.bool true)) (.t (.p2 .d7 .d0))), none⟩,
  ⟨some (.p2 .d7 .d2), (.mv (.t (.p2 .d7 .d1))), none⟩,
  ⟨some (.p2 .d7 .d3), (.mv (.t (.p2 .d0 .d4))), some ((.p2 .d7 .d2), false)⟩,
  ⟨some (.p2 .d7 .d4), (.ia 9 (.t (.p2 .d7 .d3)) (.k (.i (.ofNat 6)))), some ((.p2 .d7 .d2), false)⟩,
  ⟨some (.p2 .d7 .d5), (.fa (.t (.p2 .d7 .d4)) 4), some ((.p2 .d7 .d2), false)⟩,
  ⟨some (.p2 .d7 .d6), (.fa (.t (.p2 .d7 .d5)) 0), some ((.p2 .d7 .d2), false)⟩,
  ⟨some (.p2 .d7 .d7), (.ld1 (.t (.p2 .d7 .d6))), some ((.p2 .d7 .d2), false)⟩,
  ⟨some (.p2 .d7 .d8), (.neq (.cell (.int .i64)) (.t (.p2 .d7 .d7)) (.k (.i (.ofNat 7)))), some ((.p2 .d7 .d2), false)⟩,
  ⟨some (.p2 .d7 .d9), (.pick (.t (.p2 .d7 .d2)) (.k (.bool true)) (.t (.p2 .d7 .d8))), none⟩,
  ⟨some (.p2 .d7 .d10), (.mv (.t (.p2 .d7 .d9))), none⟩,
  ⟨some (.p2 .d7 .d11), (.mv (.t (.p2 .d0 .d4))), some ((.p2 .d7 .d10), false)⟩,
  ⟨some (.p2 .d7 .d12), (.ia 9 (.t (.p2 .d7 .d11)) (.k (.i (.ofNat 6)))), some ((.p2 .d7 .d10), false)⟩,
  ⟨some (.p2 .d7 .d13), (.fa (.t (.p2 .d7 .d12)) 4), some ((.p2 .d7 .d10), false)⟩,
  ⟨some (.p2 .d7 .d14), (.fa (.t (.p2 .d7 .d13)) 3), some ((.p2 .d7 .d10), false)⟩,
  ⟨some (.p2 .d7 .d15), (.ld1 (.t (.p2 .d7 .d14))), some ((.p2 .d7 .d10), false)⟩,
  ⟨some (.p2 .d8 .d0), (.neq (.cell (.int .i64)) (.t (.p2 .d7 .d15)) (.k (.i (.ofNat 50)))), some ((.p2 .d7 .d10), false)⟩,
  ⟨some (.p2 .d8 .d1), (.pick (.t (.p2 .d7 .d10)) (.k (.bool true)) (.t (.p2 .d8 .d0))), none⟩,
  ⟨some (.p2 .d8 .d2), (.mv (.t (.p2 .d8 .d1))), none⟩,
  ⟨some (.p2 .d8 .d3), (.mv (.t (.p2 .d0 .d4))), some ((.p2 .d8 .d2), false)⟩,
  ⟨some (.p2 .d8 .d4), (.ia 9 (.t (.p2 .d8 .d3)) (.k (.i (.ofNat 7)))), some ((.p2 .d8 .d2), false)⟩,
  ⟨some (.p2 .d8 .d5), (.fa (.t (.p2 .d8 .d4)) 4), some ((.p2 .d8 .d2), false)⟩,
  ⟨some (.p2 .d8 .d6), (.fa (.t (.p2 .d8 .d5)) 3), some ((.p2 .d8 .d2), false)⟩,
  ⟨some (.p2 .d8 .d7), (.ld1 (.t (.p2 .d8 .d6))), some ((.p2 .d8 .d2), false)⟩,
  ⟨some (.p2 .d8 .d8), (.neq (.cell (.int .i64)) (.t (.p2 .d8 .d7)) (.k (.i (.ofNat 27)))), some ((.p2 .d8 .d2), false)⟩,
  ⟨some (.p2 .d8 .d9), (.pick (.t (.p2 .d8 .d2)) (.k (.bool true)) (.t (.p2 .d8 .d8))), none⟩]) (.cond (.t (.p2 .d8 .d9)) (.seq (.reg [
  ⟨some (.p2 .d0 .d0), (.mv (.k (.bool false))), none⟩]) .ret) .skip)) (.seq (.reg [
  ⟨some (.p2 .d8 .d10), (.mv (.t (.p2 .d0 .d1))), none⟩,
  ⟨some (.p2 .d8 .d11), (.ia 3 (.t (.p2 .d8 .d10)) (.k (.i (.ofNat 0)))), none⟩,
  ⟨some (.p2 .d8 .d12), (.ldn 3 (.t (.p2 .d8 .d11))), none⟩,
  ⟨some (.p2 .d8 .d13), (.build [(.str 0 0), (.str 0 0), (.i (.ofNat 0))] [(0, 1, (.k (.str 14 2259522320544600035085845254662502))), (1, 1, (.k (.str 21 14811622715840817206578848306626653082948959691120)))]), none⟩,
  ⟨some (.p2 .d8 .d14), (.bslice 24 3 2 [(.str 0 0), (.str 0 0), (.i (.ofNat 0))] [(0, (.t (.p2 .d8 .d12))), (1, (.t (.p2 .d8 .d13)))]), none⟩,
  ⟨some (.p2 .d0 .d5), (.mv (.t (.p2 .d8 .d14))), none⟩]) (.seq (.reg [
  ⟨some (.p2 .d9 .d0), (.mv (.t (.p2 .d0 .d5))), none⟩,
  ⟨some (.p2 .d9 .d1), (.call ⟨5, .d0, .d0, .d5⟩ [(.t (.p2 .d9 .d0))]), none⟩,
  ⟨some (.p2 .d8 .d15), (.mv (.t (.p2 .d9 .d1))), none⟩,
  ⟨some (.p2 .d9 .d2), (.ext (.t (.p2 .d8 .d15)) 0), none⟩,
  ⟨some (.p2 .d9 .d3), (.ext (.t (.p2 .d8 .d15)) 1), none⟩,
  ⟨some (.p2 .d0 .d7), (.alloc 29 [(.i (.ofNat 0)), (.i (.ofNat 0)), (.i (.ofNat 0))]), none⟩,
  ⟨some (.p2 .d0 .d6), (.mv (.t (.p2 .d9 .d2))), none⟩,
  ⟨none, (.st 3 (.t (.p2 .d0 .d7)) (.t (.p2 .d9 .d3))), none⟩]) (.seq (.dreg [
  ⟨0, ⟨some (.p2 .d9 .d5), (.mv (.t (.p2 .d0 .d1))), none⟩, .pur, 0⟩,
  ⟨1, ⟨some (.p2 .d9 .d6), (.ia 3 (.t (.p2 .d9 .d5)) (.k (.i (.ofNat 1)))), none⟩, .pur, 0⟩,
  ⟨2, ⟨some (.p2 .d9 .d7), (.ldn 3 (.t (.p2 .d9 .d6))), none⟩, .rd, 0⟩,
  ⟨3, ⟨some (.p2 .d9 .d8), (.mv (.t (.p2 .d0 .d1))), none⟩, .pur, 0⟩,
  ⟨4, ⟨some (.p2 .d9 .d9), (.ia 3 (.t (.p2 .d9 .d8)) (.k (.i (.ofNat 0)))), none⟩, .pur, 0⟩,
  ⟨5, ⟨some (.p2 .d9 .d10), (.ldn 3 (.t (.p2 .d9 .d9))), none⟩, .rd, 0⟩,
  ⟨6, ⟨some (.p2 .d9 .d11), (.bslice 24 3 2 [(.str 0 0), (.str 0 0), (.i (.ofNat 0))] [(0, (.t (.p2 .d9 .d7))), (1, (.t (.p2 .d9 .d10)))]), none⟩, .ev, 0⟩,
  ⟨7, ⟨some (.p2 .d9 .d12), (.call ⟨5, .d0, .d0, .d5⟩ [(.t (.p2 .d9 .d11))]), none⟩, .ev, 1⟩,
  ⟨8, ⟨some (.p2 .d9 .d4), (.mv (.t (.p2 .d9 .d12))), none⟩, .pur, 0⟩,
  ⟨9, ⟨some (.p2 .d9 .d13), (.ext (.t (.p2 .d9 .d4)) 0), none⟩, .pur, 0⟩,
  ⟨10, ⟨some (.p2 .d9 .d14), (.ext (.t (.p2 .d9 .d4)) 1), none⟩, .pur, 0⟩,
  ⟨11, ⟨some (.p2 .d0 .d9), (.alloc 29 [(.i (.ofNat 0)), (.i (.ofNat 0)), (.i (.ofNat 0))]), none⟩, .late, 2⟩,
  ⟨12, ⟨some (.p2 .d0 .d8), (.mv (.t (.p2 .d9 .d13))), none⟩, .pur, 0⟩,
  ⟨13, ⟨none, (.st 3 (.t (.p2 .d0 .d9)) (.t (.p2 .d9 .d14))), none⟩, .ev, 3⟩]) (.seq (.reg [
  ⟨some (.p2 .d10 .d0), (.build [(.str 0 0), (.str 0 0), (.i (.ofNat 0))] [(0, 1, (.k (.str 14 2259522320544581588341771545110886))), (1, 1, (.k (.str 21 14811622715840817206578848306626653082948959691120)))]), none⟩,
  ⟨some (.p2 .d10 .d1), (.bslice 24 3 1 [(.str 0 0), (.str 0 0), (.i (.ofNat 0))] [(0, (.t (.p2 .d10 .d0)))]), none⟩,
  ⟨some (.p2 .d10 .d2), (.call ⟨5, .d0, .d0, .d5⟩ [(.t (.p2 .d10 .d1))]), none⟩,
  ⟨some (.p2 .d9 .d15), (.mv (.t (.p2 .d10 .d2))), none⟩,
  ⟨some (.p2 .d10 .d3), (.ext (.t (.p2 .d9 .d15)) 0), none⟩,
  ⟨some (.p2 .d10 .d4), (.ext (.t (.p2 .d9 .d15)) 1), none⟩,
  ⟨some (.p2 .d0 .d11), (.alloc 29 [(.i (.ofNat 0)), (.i (.ofNat 0)), (.i (.ofNat 0))]), none⟩,
  ⟨some (.p2 .d0 .d10), (.mv (.t (.p2 .d10 .d3))), none⟩,
  ⟨none, (.st 3 (.t (.p2 .d0 .d11)) (.t (.p2 .d10 .d4))), none⟩]) (.seq (.reg [
  ⟨some (.p2 .d10 .d6), (.build [(.str 0 0), (.str 0 0), (.i (.ofNat 0))] [(0, 1, (.k (.str 14 2259522320544581588341771545110886))), (1, 1, (.k (.str 32 4583982103428399823777001400466406627505014138935032103223565664905611927920)))]), none⟩,
  ⟨some (.p2 .d10 .d7), (.build [(.str 0 0), (.str 0 0), (.i (.ofNat 0))] [(0, 1, (.k (.str 14 2259522321753507407956400719817062))), (1, 1, (.k (.str 21 183390627740385938829622611331685542608350386282864)))]), none⟩,
  ⟨some (.p2 .d10 .d8), (.mv (.t (.p2 .d0 .d1))), none⟩,
  ⟨some (.p2 .d10 .d9), (.ia 3 (.t (.p2 .d10 .d8)) (.k (.i (.ofNat 1)))), none⟩,
  ⟨some (.p2 .d10 .d10), (.ldn 3 (.t (.p2 .d10 .d9))), none⟩,
  ⟨some (.p2 .d10 .d11), (.bslice 24 3 3 [(.str 0 0), (.str 0 0), (.i (.ofNat 0))] [(0, (.t (.p2 .d10 .d6))), (1, (.t (.p2 .d10 .d7))), (2, (.t (.p2 .d10 .d10)))]), none⟩,
  ⟨some (.p2 .d10 .d12), (.call ⟨5, .d0, .d0, .d5⟩ [(.t (.p2 .d10 .d11))]), none⟩,
  ⟨some (.p2 .d10 .d5), (.mv (.t (.p2 .d10 .d12))), none⟩,
  ⟨some (.p2 .d10 .d13), (.ext (.t (.p2 .d10 .d5)) 0), none⟩,
  ⟨some (.p2 .d10 .d14), (.ext (.t (.p2 .d10 .d5)) 1), none⟩,
  ⟨some (.p2 .d0 .d13), (.alloc 29 [(.i (.ofNat 0)), (.i (.ofNat 0)), (.i (.ofNat 0))]), none⟩,
  ⟨some (.p2 .d0 .d12), (.mv (.t (.p2 .d10 .d13))), none⟩,
  ⟨none, (.st 3 (.t (.p2 .d0 .d13)) (.t (.p2 .d10 .d14))), none⟩]) (.seq (.reg [
  ⟨some (.p2 .d11 .d0), (.build [(.str 0 0), (.str 0 0), (.i (.ofNat 0))] [(0, 1, (.k (.str 14 2259522320544581588341771545110886))), (1, 1, (.k (.str 21 14811645016586015737201989842326478987236756119920)))]), none⟩,
  ⟨some (.p2 .d11 .d1), (.build [(.str 0 0), (.str 0 0), (.i (.ofNat 0))] [(0, 1, (.k (.str 14 2259522321753507407956400719817062))), (1, 1, (.k (.str 21 183390627740385938829622611331685542608350386282864)))]), none⟩,
  ⟨some (.p2 .d11 .d2), (.mv (.t (.p2 .d0 .d1))), none⟩,
  ⟨some (.p2 .d11 .d3), (.ia 3 (.t (.p2 .d11 .d2)) (.k (.i (.ofNat 1)))), none⟩,
  ⟨some (.p2 .d11 .d4), (.ldn 3 (.t (.p2 .d11 .d3))), none⟩,
  ⟨some (.p2 .d11 .d5), (.bslice 24 3 3 [(.str 0 0), (.str 0 0), (.i (.ofNat 0))] [(0, (.t (.p2 .d11 .d0))), (1, (.t (.p2 .d11 .d1))), (2, (.t (.p2 .d11 .d4)))]), none⟩,
  ⟨some (.p2 .d11 .d6), (.call ⟨5, .d0, .d0, .d5⟩ [(.t (.p2 .d11 .d5))]), none⟩,
  ⟨some (.p2 .d10 .d15), (.mv (.t (.p2 .d11 .d6))), none⟩,
  ⟨some (.p2 .d11 .d7), (.ext (.t (.p2 .d10 .d15)) 0), none⟩,
  ⟨some (.p2 .d11 .d8), (.ext (.t (.p2 .d10 .d15)) 1), none⟩,
  ⟨some (.p2 .d0 .d15), (.alloc 29 [(.i (.ofNat 0)), (.i (.ofNat 0)), (.i (.ofNat 0))]), none⟩,
  ⟨some (.p2 .d0 .d14), (.mv (.t (.p2 .d11 .d7))), none⟩,
  ⟨none, (.st 3 (.t (.p2 .d0 .d15)) (.t (.p2 .d11 .d8))), none⟩]) (.seq (.reg [
  ⟨some (.p2 .d11 .d10), (.build [(.str 0 0), (.str 0 0), (.i (.ofNat 0))] [(0, 1, (.k (.str 14 2259522320544581588341771545110886))), (1, 1, (.k (.str 14 2016709981743959181721886225817968)))]), none⟩,
  ⟨some (.p2 .d11 .d11), (.build [(.str 0 0), (.str 0 0), (.i (.ofNat 0))] [(0, 1, (.k (.str 14 2259522321753507407956400719817062))), (1, 1, (.k (.str 4 1668183398)))]), none⟩,
  ⟨some (.p2 .d11 .d12), (.bslice 24 3 2 [(.str 0 0), (.str 0 0), (.i (.ofNat 0))] [(0, (.t (.p2 .d11 .d10))), (1, (.t (.p2 .d11 .d11)))]), none⟩,
  ⟨some (.p2 .d11 .d13), (.call ⟨5, .d0, .d0, .d5⟩ [(.t (.p2 .d11 .d12))]), none⟩,
  ⟨some (.p2 .d11 .d9), (.mv (.t (.p2 .d11 .d13))), none⟩,
  ⟨some (.p2 .d11 .d14), (.ext (.t (.p2 .d11 .d9)) 0), none⟩,
  ⟨some (.p2 .d11 .d15), (.ext (.t (.p2 .d11 .d9)) 1), none⟩,
  ⟨some (.p2 .d1 .d1), (.alloc 29 [(.i (.ofNat 0)), (.i (.ofNat 0)), (.i (.ofNat 0))]), none⟩,
  ⟨some (.p2 .d1 .d0), (.mv (.t (.p2 .d11 .d14))), none⟩,
  ⟨none, (.st 3 (.t (.p2 .d1 .d1)) (.t (.p2 .d11 .d15))), none⟩]) (.seq (.reg [
  ⟨some (.p2 .d12 .d1), (.call ⟨5, .d0, .d0, .d5⟩ [(.k .nils)]), none⟩,
  ⟨some (.p2 .d12 .d0), (.mv (.t (.p2 .d12 .d1))), none⟩,
  ⟨some (.p2 .d12 .d2), (.ext (.t (.p2 .d12 .d0)) 0), none⟩,
  ⟨some (.p2 .d12 .d3), (.ext (.t (.p2 .d12 .d0)) 1), none⟩,
  ⟨some (.p2 .d1 .d3), (.alloc 29 [(.i (.ofNat 0)), (.i (.ofNat 0)), (.i (.ofNat 0))]), none⟩,
  ⟨some (.p2 .d1 .d2), (.mv (.t (.p2 .d12 .d2))), none⟩,
  ⟨none, (.st 3 (.t (.p2 .d1 .d3)) (.t (.p2 .d12 .d3))), none⟩]) (.seq (.reg [
  ⟨some (.p2 .d1 .d4), (.mv (.k .nilp)), none⟩]) (.seq (.reg [
  ⟨some (.p2 .d12 .d5), (.mv (.t (.p2 .d1 .d4))), none⟩,
  ⟨some (.p2 .d12 .d6), (.call ⟨7, .d0, .d0, .d7⟩ [(.t (.p2 .d12 .d5)), (.k (.str 1 112)), (.k (.str 1 102))]), none⟩,
  ⟨some (.p2 .d12 .d4), (.mv (.t (.p2 .d12 .d6))), none⟩,
  ⟨some (.p2 .d12 .d7), (.ext (.t (.p2 .d12 .d4)) 0), none⟩,
  ⟨some (.p2 .d12 .d8), (.ext (.t (.p2 .d12 .d4)) 1), none⟩,
  ⟨some (.p2 .d1 .d5), (.alloc 35 [(.i (.ofNat 0)), (.str 0 0), (.i (.ofNat 0)), (.i (.ofNat 0)), (.str 0 0)]), none⟩,
  ⟨none, (.st 5 (.t (.p2 .d1 .d5)) (.t (.p2 .d12 .d7))), none⟩,
  ⟨some (.p2 .d1 .d6), (.mv (.t (.p2 .d12 .d8))), none⟩]) (.seq (.reg [
  ⟨some (.p2 .d12 .d9), (.ldn 3 (.t (.p2 .d0 .d7))), none⟩,
  ⟨some (.p2 .d12 .d10), (.build [(.i (.ofNat 0)), (.i (.ofNat 0)), (.i (.ofNat 0))] [(0, 1, (.k (.i (.ofNat 0)))), (1, 1, (.k (.i (.ofNat 17)))), (2, 1, (.k (.i (.ofNat 16))))]), none⟩,
  ⟨some (.p2 .d12 .d11), (.eql (.strct [(.int .i64), (.int .i64), (.int .i64)]) (.t (.p2 .d12 .d9)) (.t (.p2 .d12 .d10))), none⟩,
  ⟨some (.p2 .d12 .d12), (.mv (.t (.p2 .d12 .d11))), none⟩,
  ⟨some (.p2 .d12 .d13), (.ldn 3 (.t (.p2 .d0 .d9))), some ((.p2 .d12 .d12), true)⟩,
  ⟨some (.p2 .d12 .d14), (.build [(.i (.ofNat 0)), (.i (.ofNat 0)), (.i (.ofNat 0))] [(2, 1, (.k (.i (.ofNat 2))))]), some ((.p2 .d12 .d12), true)⟩,
  ⟨some (.p2 .d12 .d15), (.eql (.strct [(.int .i64), (.int .i64), (.int .i64)]) (.t (.p2 .d12 .d13)) (.t (.p2 .d12 .d14))), some ((.p2 .d12 .d12), true)⟩,
  ⟨some (.p2 .d13 .d0), (.pick (.t (.p2 .d12 .d12)) (.t (.p2 .d12 .d15)) (.k (.bool false))), none⟩,
  ⟨some (.p2 .d13 .d1), (.mv (.t (.p2 .d13 .d0))), none⟩,
  ⟨some (.p2 .d13 .d2), (.ldn 3 (.t (.p2 .d0 .d11))), some ((.p2 .d13 .d1), true)⟩,
  ⟨some (.p2 .d13 .d3), (.build [(.i (.ofNat 0)), (.i (.ofNat 0)), (.i (.ofNat 0))] [(0, 1, (.k (.i (.ofNat 0)))), (1, 1, (.k (.i (.ofNat 8)))), (2, 1, (.k (.i (.ofNat 9))))]), some ((.p2 .d13 .d1), true)⟩,
  ⟨some (.p2 .d13 .d4), (.eql (.strct [(.int .i64), (.int .i64), (.int .i64)]) (.t (.p2 .d13 .d2)) (.t (.p2 .d13 .d3))), some ((.p2 .d13 .d1), true)⟩,
  ⟨some (.p2 .d13 .d5), (.pick (.t (.p2 .d13 .d1)) (.t (.p2 .d13 .d4)) (.k (.bool false))), none⟩,
  ⟨some (.p2 .d13 .d6), (.mv (.t (.p2 .d13 .d5))), none⟩,
  ⟨some (.p2 .d13 .d7), (.ldn 3 (.t (.p2 .d0 .d13))), some ((.p2 .d13 .d6), true)⟩,
  ⟨some (.p2 .d13 .d8), (.build [(.i (.ofNat 0)), (.i (.ofNat 0)), (.i (.ofNat 0))] [(0, 1, (.k (.i (.ofNat 0)))), (1, 1, (.k (.i (.ofNat 28)))), (2, 1, (.k (.i (.ofNat 13))))]), some ((.p2 .d13 .d6), true)⟩,
  ⟨some (.p2 .d13 .d9), (.eql (.strct [(.int .i64), (.int .i64), (.int .i64)]) (.t (.p2 .d13 .d7)) (.t (.p2 .d13 .d8))), some ((.p2 .d13 .d6), true)⟩,
  ⟨some (.p2 .d13 .d10), (.pick (.t (.p2 .d13 .d6)) (.t (.p2 .d13 .d9)) (.k (.bool false))), none⟩,
  ⟨some (.p2 .d13 .d11), (.mv (.t (.p2 .d13 .d10))), none⟩,
  ⟨some (.p2 .d13 .d12), (.ldn 3 (.t (.p2 .d0 .d15))), some ((.p2 .d13 .d11), true)⟩,
  ⟨some (.p2 .d13 .d13), (.build [(.i (.ofNat 0)), (.i (.ofNat 0)), (.i (.ofNat 0))] [(0, 1, (.k (.i (.ofNat 1)))), (1, 1, (.k (.i (.ofNat 15)))), (2, 1, (.k (.i (.ofNat 13))))]), some ((.p2 .d13 .d11), true)⟩,
  ⟨some (.p2 .d13 .d14), (.eql (.strct [(.int .i64), (.int .i64), (.int .i64)]) (.t (.p2 .d13 .d12)) (.t (.p2 .d13 .d13))), some ((.p2 .d13 .d11), true)⟩,
  ⟨some (.p2 .d13 .d15), (.pick (.t (.p2 .d13 .d11)) (.t (.p2 .d13 .d14)) (.k (.bool false))), none⟩,
  ⟨some (.p2 .d14 .d0), (.mv (.t (.p2 .d13 .d15))), none⟩,
  ⟨some (.p2 .d14 .d1), (.ldn 3 (.t (.p2 .d1 .d1))), some ((.p2 .d14 .d0), true)⟩,
  ⟨some (.p2 .d14 .d2), (.build [(.i (.ofNat 0)), (.i (.ofNat 0)), (.i (.ofNat 0))] [(0, 1, (.k (.i (.ofNat 0)))), (1, 1, (.k (.i (.ofNat 14)))), (2, 1, (.k (.i (.ofNat 4))))]), some ((.p2 .d14 .d0), true)⟩,
  ⟨some (.p2 .d14 .d3), (.eql (.strct [(.int .i64), (.int .i64), (.int .i64)]) (.t (.p2 .d14 .d1)) (.t (.p2 .d14 .d2))), some ((.p2 .d14 .d0), true)⟩,
  ⟨some (.p2 .d14 .d4), (.pick (.t (.p2 .d14 .d0)) (.t (.p2 .d14 .d3)) (.k (.bool false))), none⟩,
  ⟨some (.p2 .d14 .d5), (.mv (.t (.p2 .d14 .d4))), none⟩,
  ⟨some (.p2 .d14 .d6), (.fa (.t (.p2 .d1 .d3)) 2), some ((.p2 .d14 .d5), true)⟩,
  ⟨some (.p2 .d14 .d7), (.ld1 (.t (.p2 .d14 .d6))), some ((.p2 .d14 .d5), true)⟩,
  ⟨some (.p2 .d14 .d8), (.eql (.cell (.int .i64)) (.t (.p2 .d14 .d7)) (.k (.i (.ofNat 0)))), some ((.p2 .d14 .d5), true)⟩,
  ⟨some (.p2 .d14 .d9), (.pick (.t (.p2 .d14 .d5)) (.t (.p2 .d14 .d8)) (.k (.bool false))), none⟩,
  ⟨some (.p2 .d14 .d10), (.mv (.t (.p2 .d14 .d9))), none⟩,
  ⟨some (.p2 .d14 .d11), (.mv (.t (.p2 .d1 .d2))), some ((.p2 .d14 .d10), true)⟩,
  ⟨some (.p2 .d14 .d12), (.call ⟨8, .d0, .d0, .d8⟩ [(.t (.p2 .d14 .d11))]), some ((.p2 .d14 .d10), true)⟩,
  ⟨some (.p2 .d14 .d13), (.eql (.cell (.int .i64)) (.t (.p2 .d14 .d12)) (.k (.i (.ofNat 0)))), some ((.p2 .d14 .d10), true)⟩,
  ⟨some (.p2 .d14 .d14), (.pick (.t (.p2 .d14 .d10)) (.t (.p2 .d14 .d13)) (.k (.bool false))), none⟩,
  ⟨some (.p2 .d14 .d15), (.mv (.t (.p2 .d14 .d14))), none⟩,
  ⟨some (.p2 .d15 .d0), (.mv (.t (.p2 .d1 .d4))), some ((.p2 .d14 .d15), true)⟩,
  ⟨some (.p2 .d15 .d1), (.call ⟨8, .d0, .d0, .d8⟩ [(.t (.p2 .d15 .d0))]), some ((.p2 .d14 .d15), true)⟩,
  ⟨some (.p2 .d15 .d2), (.eql (.cell (.int .i64)) (.t (.p2 .d15 .d1)) (.k (.i (.ofNat 0)))), some ((.p2 .d14 .d15), true)⟩,
  ⟨some (.p2 .d15 .d3), (.pick (.t (.p2 .d14 .d15)) (.t (.p2 .d15 .d2)) (.k (.bool false))), none⟩,
  ⟨some (.p2 .d15 .d4), (.mv (.t (.p2 .d15 .d3))), none⟩,
  ⟨some (.p2 .d15 .d5), (.mv (.t (.p2 .d1 .d4))), some ((.p2 .d15 .d4), true)⟩,
  ⟨some (.p2 .d15 .d6), (.call ⟨6, .d0, .d0, .d6⟩ [(.t (.p2 .d15 .d5))]), some ((.p2 .d15 .d4), true)⟩,
  ⟨some (.p2 .d15 .d7), (.len 1 (.t (.p2 .d15 .d6))), some ((.p2 .d15 .d4), true)⟩,
  ⟨some (.p2 .d15 .d8), (.eql (.cell (.int .i64)) (.t (.p2 .d15 .d7)) (.k (.i (.ofNat 0)))), some ((.p2 .d15 .d4), true)⟩,
  ⟨some (.p2 .d15 .d9), (.pick (.t (.p2 .d15 .d4)) (.t (.p2 .d15 .d8)) (.k (.bool false))), none⟩,
  ⟨some (.p2 .d15 .d10), (.mv (.t (.p2 .d15 .d9))), none⟩,
  ⟨some (.p2 .d15 .d11), (.mv (.t (.p2 .d1 .d4))), some ((.p2 .d15 .d10), true)⟩,
  ⟨some (.p2 .d15 .d12), (.call ⟨9, .d0, .d0, .d9⟩ [(.t (.p2 .d15 .d11)), (.k (.i (.ofNat 0)))]), some ((.p2 .d15 .d10), true)⟩,
  ⟨some (.p2 .d15 .d13), (.fld (.t (.p2 .d15 .d12)) 0 1 false), some ((.p2 .d15 .d10), true)⟩,
  ⟨some (.p2 .d15 .d14), (.eql (.cell (.int .i64)) (.t (.p2 .d15 .d13)) (.k (.i (.ofNat 0)))), some ((.p2 .d15 .d10), true)⟩,
  ⟨some (.p2 .d15 .d15), (.pick (.t (.p2 .d15 .d10)) (.t (.p2 .d15 .d14)) (.k (.bool false))), none⟩,
  ⟨some (.p3 .d0 .d0), (.mv (.t (.p2 .d15 .d15))), none⟩,
  ⟨some (.p3 .d0 .d1), (.mv (.t (.p2 .d1 .d6))), some ((.p3 .d0 .d0), true)⟩,
  ⟨some (.p3 .d0 .d2), (.not (.t (.p3 .d0 .d1))), some ((.p3 .d0 .d0), true)⟩,
  ⟨some (.p3 .d0 .d3), (.pick (.t (.p3 .d0 .d0)) (.t (.p3 .d0 .d2)) (.k (.bool false))), none⟩,
  ⟨some (.p3 .d0 .d4), (.mv (.t (.p3 .d0 .d3))), none⟩,
  ⟨some (.p3 .d0 .d5), (.call ⟨10, .d0, .d0, .d10⟩ []), some ((.p3 .d0 .d4), true)⟩,
  ⟨some (.p3 .d0 .d6), (.pick (.t (.p3 .d0 .d4)) (.t (.p3 .d0 .d5)) (.k (.bool false))), none⟩,
  ⟨some (.p2 .d0 .d0), (.mv (.t (.p3 .d0 .d6))), none⟩]) .ret))))))))))))))))))), [.tmp (.p2 .d0 .d0)]⟩
def cf4 : CF := ⟨4, true, (.seq (.reg [
  ⟨some (.p2 .d0 .d4), (.mv (.k (.bool false))), none⟩]) (.seq (.reg [
  ⟨some (.p2 .d0 .d7), (.mv (.t (.p2 .d0 .d0))), none⟩,
  ⟨some (.p2 .d0 .d8), (.call ⟨11, .d0, .d0, .d11⟩ [(.t (.p2 .d0 .d7))]), none⟩,
  ⟨some (.p2 .d0 .d5), (.mv (.t (.p2 .d0 .d8))), none⟩]) (.seq (.seq (.reg [
  ⟨some (.p2 .d0 .d9), (.mv (.t (.p2 .d0 .d5))), none⟩,
  ⟨some (.p2 .d0 .d10), (.len 1 (.t (.p2 .d0 .d9))), none⟩,
  ⟨some (.p2 .d0 .d11), (.mv (.t (.p2 .d0 .d1))), none⟩,
  ⟨some (.p2 .d0 .d12), (.len 1 (.t (.p2 .d0 .d11))), none⟩,
  ⟨some (.p2 .d0 .d13), (.neq (.cell (.int .i64)) (.t (.p2 .d0 .d10)) (.t (.p2 .d0 .d12))), none⟩]) (.cond (.t (.p2 .d0 .d13)) (.seq (.reg [
  ⟨some (.p2 .d0 .d4), (.mv (.k (.bool false))), none⟩]) .ret) .skip)) (.seq (.seq (.reg [
  ⟨some (.p2 .d0 .d6), (.mv (.k (.i (.ofNat 0)))), none⟩]) (.block 0 (.loop (.seq (.seq (.reg [
  ⟨some (.p2 .d0 .d14), (.mv (.t (.p2 .d0 .d6))), none⟩,
  ⟨some (.p2 .d0 .d15), (.mv (.t (.p2 .d0 .d5))), none⟩,
  ⟨some (.p2 .d1 .d0), (.len 1 (.t (.p2 .d0 .d15))), none⟩,
  ⟨some (.p2 .d1 .d1), (.lss (.t (.p2 .d0 .d14)) (.t (.p2 .d1 .d0))), none⟩]) (.cond (.t (.p2 .d1 .d1)) .skip (.exit 0))) (.seq (.block 1 (.seq (.dreg [
  ⟨0, ⟨some (.p2 .d1 .d4), (.mv (.t (.p2 .d0 .d5))), none⟩, .pur, 0⟩,
  ⟨1, ⟨some (.p2 .d1 .d5), (.mv (.t (.p2 .d0 .d6))), none⟩, .pur, 0⟩,
  ⟨2, ⟨some (.p2 .d1 .d6), (.ia 1 (.t (.p2 .d1 .d4)) (.t (.p2 .d1 .d5))), none⟩, .pur, 0⟩,
  ⟨3, ⟨some (.p2 .d1 .d7), (.ld1 (.t (.p2 .d1 .d6))), none⟩, .rd, 10⟩,
  ⟨4, ⟨some (.p2 .d1 .d8), (.mv (.t (.p2 .d0 .d1))), none⟩, .pur, 0⟩,
  ⟨5, ⟨some (.p2 .d1 .d9), (.mv (.t (.p2 .d0 .d6))), none⟩, .pur, 0⟩,
  ⟨6, ⟨some (.p2 .d1 .d10), (.ia 1 (.t (.p2 .d1 .d8)) (.t (.p2 .d1 .d9))), none⟩, .pur, 0⟩,
  ⟨7, ⟨some (.p2 .d1 .d11), (.ld1 (.t (.p2 .d1 .d10))), none⟩, .rd, 10⟩,
  ⟨8, ⟨some (.p2 .d1 .d12), (.neq (.cell (.int .i64)) (.t (.p2 .d1 .d7)) (.t (.p2 .d1 .d11))), none⟩, .pur, 0⟩]) (.cond (.t (.p2 .d1 .d12)) (.seq (.reg [
  ⟨some (.p2 .d0 .d4), (.mv (.k (.bool false))), none⟩]) .ret) .skip))) (.reg [
  ⟨some (.p2 .d1 .d2), (.mv (.t (.p2 .d0 .d6))), none⟩,
  ⟨some (.p2 .d1 .d3), (.add (.t (.p2 .d1 .d2)) (.k (.i (.ofNat 1)))), none⟩,
  ⟨some (.p2 .d0 .d6), (.mv (.t (.p2 .d1 .d3))), none⟩])))))) (.seq (.reg [
  ⟨some (.p2 .d0 .d4), (.mv (.k (.bool true))), none⟩]) .ret))))), [.tmp (.p2 .d0 .d4)]⟩
def cf5 : CF := ⟨5, true, (.seq (.reg [
  ⟨some (.p2 .d0 .d2), (.mv (.k .nilp)), none⟩,
  ⟨some (.p2 .d0 .d3), (.alloc 29 [(.i (.ofNat 0)), (.i (.ofNat 0)), (.i (.ofNat 0))]), none⟩]) (.seq (.reg [
  ⟨some (.p2 .d1 .d0), (.mv (.t (.p2 .d0 .d0))), none⟩,
  ⟨some (.p2 .d1 .d1), (.call ⟨12, .d0, .d0, .d12⟩ [(.t (.p2 .d1 .d0))]), none⟩,
  ⟨some (.p2 .d1 .d2), .mkmap, none⟩,
  ⟨some (.p2 .d1 .d3), .mkmap, none⟩,
  ⟨some (.p2 .d1 .d4), .mkmap, none⟩,
  ⟨some (.p2 .d1 .d5), (.build [.nils, .nils, .nils, (.i (.ofNat 0)), (.i (.ofNat 0)), (.i (.ofNat 0)), .nilm, .nilm, .nilm, .nils] [(0, 1, (.t (.p2 .d1 .d1))), (6, 1, (.t (.p2 .d1 .d2))), (7, 1, (.t (.p2 .d1 .d3))), (8, 1, (.t (.p2 .d1 .d4)))]), none⟩,
  ⟨some (.p2 .d1 .d6), (.box 55 10 (.t (.p2 .d1 .d5))), none⟩,
  ⟨some (.p2 .d0 .d4), (.mv (.t (.p2 .d1 .d6))), none⟩]) (.seq (.seq (.reg [
  ⟨some (.p2 .d1 .d7), (.mv (.t (.p2 .d0 .d0))), none⟩,
  ⟨some (.p2 .d1 .d8), (.len 1 (.t (.p2 .d1 .d7))), none⟩,
  ⟨some (.p2 .d1 .d9), (.mv (.k (.i (.ofNat 0)))), none⟩]) (.block 0 (.loop (.seq (.reg [
  ⟨some (.p2 .d1 .d10), (.lss (.t (.p2 .d1 .d9)) (.t (.p2 .d1 .d8))), none⟩]) (.seq (.cond (.t (.p2 .d1 .d10)) .skip (.exit 0)) (.seq (.block 1 (.seq (.reg [
  ⟨some (.p2 .d1 .d11), (.mv (.t (.p2 .d1 .d9))), none⟩,
  ⟨some (.p2 .d1 .d12), (.ia 3 (.t (.p2 .d1 .d7)) (.t (.p2 .d1 .d9))), none⟩,
  ⟨some (.p2 .d1 .d13), (.ldn 3 (.t (.p2 .d1 .d12))), none⟩,
  ⟨some (.p2 .d0 .d6), (.alloc 24 [(.str 0 0), (.str 0 0), (.i (.ofNat 0))]), none⟩,
  ⟨some (.p2 .d0 .d5), (.mv (.t (.p2 .d1 .d11))), none⟩,
  ⟨none, (.st 3 (.t (.p2 .d0 .d6)) (.t (.p2 .d1 .d13))), none⟩]) (.seq (.reg [
  ⟨some (.p2 .d1 .d15), (.fa (.t (.p2 .d0 .d6)) 0), none⟩,
  ⟨some (.p2 .d2 .d0), (.ld1 (.t (.p2 .d1 .d15))), none⟩,
  ⟨some (.p2 .d2 .d1), (.call ⟨13, .d0, .d0, .d13⟩ [(.t (.p2 .d2 .d0))]), none⟩,
  ⟨some (.p2 .d1 .d14), (.mv (.t (.p2 .d2 .d1))), none⟩,
  ⟨some (.p2 .d2 .d2), (.ext (.t (.p2 .d1 .d14)) 0), none⟩,
  ⟨some (.p2 .d2 .d3), (.ext (.t (.p2 .d1 .d14)) 1), none⟩,
  ⟨some (.p2 .d0 .d7), (.mv (.t (.p2 .d2 .d2))), none⟩,
  ⟨some (.p2 .d0 .d8), (.mv (.t (.p2 .d2 .d3))), none⟩]) (.seq (.seq (.dreg [
  ⟨0, ⟨some (.p2 .d2 .d4), (.mv (.t (.p2 .d0 .d8))), none⟩, .pur, 0⟩,
  ⟨1, ⟨some (.p2 .d2 .d5), (.not (.t (.p2 .d2 .d4))), none⟩, .pur, 0⟩,
  ⟨2, ⟨some (.p2 .d2 .d6), (.mv (.t (.p2 .d2 .d5))), none⟩, .pur, 0⟩,
  ⟨3, ⟨some (.p2 .d2 .d7), (.mv (.t (.p2 .d0 .d5))), some ((.p2 .d2 .d6), false)⟩, .pur, 0⟩,
  ⟨4, ⟨some (.p2 .d2 .d8), (.gtr (.t (.p2 .d2 .d7)) (.k (.i (.ofNat 0)))), some ((.p2 .d2 .d6), false)⟩, .pur, 0⟩,
  ⟨5, ⟨some (.p2 .d2 .d9), (.mv (.t (.p2 .d2 .d8))), some ((.p2 .d2 .d6), false)⟩, .pur, 0⟩,
  ⟨6, ⟨some (.p2 .d2 .d10), (.mv (.t (.p2 .d0 .d0))), some ((.p2 .d2 .d9), true)⟩, .pur, 0⟩,
  ⟨7, ⟨some (.p2 .d2 .d11), (.mv (.t (.p2 .d0 .d5))), some ((.p2 .d2 .d9), true)⟩, .pur, 0⟩,
  ⟨8, ⟨some (.p2 .d2 .d12), (.sub (.t (.p2 .d2 .d11)) (.k (.i (.ofNat 1)))), some ((.p2 .d2 .d9), true)⟩, .pur, 0⟩,
  ⟨9, ⟨some (.p2 .d2 .d13), (.ia 3 (.t (.p2 .d2 .d10)) (.t (.p2 .d2 .d12))), some ((.p2 .d2 .d9), true)⟩, .pur, 0⟩,
  ⟨10, ⟨some (.p2 .d2 .d14), (.fa (.t (.p2 .d2 .d13)) 0), some ((.p2 .d2 .d9), true)⟩, .pur, 0⟩,
  ⟨11, ⟨some (.p2 .d2 .d15), (.ld1 (.t (.p2 .d2 .d14))), some ((.p2 .d2 .d9), true)⟩, .rd, 0⟩,
  ⟨12, ⟨some (.p2 .d3 .d0), (.fa (.t (.p2 .d0 .d6)) 0), some ((.p2 .d2 .d9), true)⟩, .pur, 0⟩,
  ⟨13, ⟨some (.p2 .d3 .d1), (.ld1 (.t (.p2 .d3 .d0))), some ((.p2 .d2 .d9), true)⟩, .rd, 0⟩,
  ⟨14, ⟨some (.p2 .d3 .d2), (.call ⟨14, .d0, .d0, .d14⟩ [(.t (.p2 .d2 .d15)), (.t (.p2 .d3 .d1))]), some ((.p2 .d2 .d9), true)⟩, .ev, 0⟩,
  ⟨15, ⟨some (.p2 .d3 .d3), (.geq (.t (.p2 .d3 .d2)) (.k (.i (.ofNat 0)))), some ((.p2 .d2 .d9), true)⟩, .pur, 0⟩,
  ⟨16, ⟨some (.p2 .d3 .d4), (.pick (.t (.p2 .d2 .d9)) (.t (.p2 .d3 .d3)) (.k (.bool false))), some ((.p2 .d2 .d6), false)⟩, .pur, 0⟩,
  ⟨17, ⟨some (.p2 .d3 .d5), (.pick (.t (.p2 .d2 .d6)) (.k (.bool true)) (.t (.p2 .d3 .d4))), none⟩, .pur, 0⟩]) (.cond (.t (.p2 .d3 .d5)) (.seq (.reg [
  ⟨some (.p2 .d3 .d6), (.build [(.i (.ofNat 0)), (.i (.ofNat 0)), (.i (.ofNat 0))] [(2, 1, (.k (.i (.ofNat 2))))]), none⟩,
  ⟨some (.p2 .d0 .d2), (.mv (.k .nilp)), none⟩,
  ⟨none, (.st 3 (.t (.p2 .d0 .d3)) (.t (.p2 .d3 .d6))), none⟩]) .ret) .skip)) (.reg [
  ⟨some (.p2 .d3 .d7), (.mv (.t (.p2 .d0 .d4))), none⟩,
  ⟨some (.p2 .d3 .d8), (.mv (.t (.p2 .d0 .d4))), none⟩,
  ⟨some (.p2 .d3 .d9), (.nilc (.t (.p2 .d3 .d8))), none⟩,
  ⟨some (.p2 .d3 .d10), (.fa (.t (.p2 .d3 .d9)) 2), none⟩,
  ⟨some (.p2 .d3 .d11), (.ld1 (.t (.p2 .d3 .d10))), none⟩,
  ⟨some (.p2 .d3 .d12), (.mv (.t (.p2 .d0 .d7))), none⟩,
  ⟨some (.p2 .d3 .d13), (.bslice 9 1 1 [(.str 0 0)] [(0, (.t (.p2 .d3 .d12)))]), none⟩,
  ⟨some (.p2 .d3 .d14), (.append 9 1 16 (.t (.p2 .d3 .d11)) (.t (.p2 .d3 .d13))), none⟩,
  ⟨some (.p2 .d3 .d15), (.nilc (.t (.p2 .d3 .d7))), none⟩,
  ⟨some (.p2 .d4 .d0), (.fa (.t (.p2 .d3 .d15)) 2), none⟩,
  ⟨none, (.st 1 (.t (.p2 .d4 .d0)) (.t (.p2 .d3 .d14))), none⟩]))))) (.reg [
  ⟨some (.p2 .d4 .d1), (.add (.t (.p2 .d1 .d9)) (.k (.i (.ofNat 1)))), none⟩,
  ⟨some (.p2 .d1 .d9), (.mv (.t (.p2 .d4 .d1))), none⟩]))))))) (.seq (.seq (.reg [
  ⟨some (.p2 .d4 .d2), (.mv (.t (.p2 .d0 .d0))), none⟩,
  ⟨some (.p2 .d4 .d3), (.len 1 (.t (.p2 .d4 .d2))), none⟩,
  ⟨some (.p2 .d4 .d4), (.mv (.k (.i (.ofNat 0)))), none⟩]) (.block 2 (.loop (.seq (.reg [
  ⟨some (.p2 .d4 .d5), (.lss (.t (.p2 .d4 .d4)) (.t (.p2 .d4 .d3))), none⟩]) (.seq (.cond (.t (.p2 .d4 .d5)) .skip (.exit 2)) (.seq (.block 3 (.seq (.reg [
  ⟨some (.p2 .d4 .d6), (.mv (.t (.p2 .d4 .d4))), none⟩,
  ⟨some (.p2 .d4 .d7), (.ia 3 (.t (.p2 .d4 .d2)) (.t (.p2 .d4 .d4))), none⟩,
  ⟨some (.p2 .d4 .d8), (.ldn 3 (.t (.p2 .d4 .d7))), none⟩,
  ⟨some (.p2 .d0 .d10), (.alloc 24 [(.str 0 0), (.str 0 0), (.i (.ofNat 0))]), none⟩,
  ⟨some (.p2 .d0 .d9), (.mv (.t (.p2 .d4 .d6))), none⟩,
  ⟨none, (.st 3 (.t (.p2 .d0 .d10)) (.t (.p2 .d4 .d8))), none⟩]) (.seq (.reg [
  ⟨some (.p2 .d4 .d10), (.fa (.t (.p2 .d0 .d10)) 1), none⟩,
  ⟨some (.p2 .d4 .d11), (.ld1 (.t (.p2 .d4 .d10))), none⟩,
  ⟨some (.p2 .d4 .d12), (.call ⟨15, .d0, .d0, .d15⟩ [(.t (.p2 .d4 .d11))]), none⟩,
  ⟨some (.p2 .d4 .d9), (.mv (.t (.p2 .d4 .d12))), none⟩,
  ⟨some (.p2 .d4 .d13), (.ext (.t (.p2 .d4 .d9)) 0), none⟩,
  ⟨some (.p2 .d4 .d14), (.ext (.t (.p2 .d4 .d9)) 1), none⟩,
  ⟨some (.p2 .d4 .d15), (.ext (.t (.p2 .d4 .d9)) 2), none⟩,
  ⟨some (.p2 .d0 .d11), (.alloc 43 [(.i (.ofNat 0)), (.i (.ofNat 0)), (.i (.ofNat 0)), (.i (.ofNat 0)), (.str 0 0), .nils]), none⟩,
  ⟨none, (.st 6 (.t (.p2 .d0 .d11)) (.t (.p2 .d4 .d13))), none⟩,
  ⟨some (.p2 .d0 .d12), (.mv (.t (.p2 .d4 .d14))), none⟩,
  ⟨some (.p2 .d0 .d13), (.mv (.t (.p2 .d4 .d15))), none⟩]) (.seq (.seq (.reg [
  ⟨some (.p2 .d5 .d0), (.mv (.t (.p2 .d0 .d13))), none⟩,
  ⟨some (.p2 .d5 .d1), (.neq (.cell (.int .i64)) (.t (.p2 .d5 .d0)) (.k (.i (.ofNat 0)))), none⟩]) (.cond (.t (.p2 .d5 .d1)) (.reg [
  ⟨some (.p2 .d5 .d2), (.mv (.t (.p2 .d0 .d4))), none⟩,
  ⟨some (.p2 .d5 .d3), (.nilc (.t (.p2 .d5 .d2))), none⟩,
  ⟨some (.p2 .d5 .d4), (.fa (.t (.p2 .d5 .d3)) 3), none⟩,
  ⟨some (.p2 .d5 .d5), (.mv (.t (.p2 .d0 .d9))), none⟩,
  ⟨some (.p2 .d5 .d6), (.mv (.t (.p2 .d0 .d12))), none⟩,
  ⟨some (.p2 .d5 .d7), (.mv (.t (.p2 .d0 .d13))), none⟩,
  ⟨some (.p2 .d5 .d8), (.call ⟨16, .d0, .d1, .d0⟩ [(.t (.p2 .d5 .d4)), (.t (.p2 .d5 .d5)), (.t (.p2 .d5 .d6)), (.t (.p2 .d5 .d7))]), none⟩]) .skip)) (.dreg [
  ⟨0, ⟨some (.p2 .d5 .d9), (.mv (.t (.p2 .d0 .d4))), none⟩, .pur, 0⟩,
  ⟨1, ⟨some (.p2 .d5 .d10), (.nilc (.t (.p2 .d5 .d9))), none⟩, .pur, 0⟩,
  ⟨2, ⟨some (.p2 .d5 .d11), (.fa (.t (.p2 .d5 .d10)) 1), none⟩, .pur, 0⟩,
  ⟨3, ⟨some (.p2 .d5 .d12), (.ld1 (.t (.p2 .d5 .d11))), none⟩, .rd, 1⟩,
  ⟨4, ⟨some (.p2 .d5 .d13), (.ldn 6 (.t (.p2 .d0 .d11))), none⟩, .rd, 1⟩,
  ⟨5, ⟨some (.p2 .d5 .d14), (.len 1 (.t (.p2 .d5 .d12))), none⟩, .rd, 1⟩,
  ⟨6, ⟨some (.p2 .d5 .d15), (.bslice 43 6 1 [(.i (.ofNat 0)), (.i (.ofNat 0)), (.i (.ofNat 0)), (.i (.ofNat 0)), (.str 0 0), .nils] [(0, (.k (.agg [(.i (.ofNat 0)), (.i (.ofNat 0)), (.i (.ofNat 0)), (.i (.ofNat 0)), (.str 0 0), .nils])))]), none⟩, .ev, 0⟩,
  ⟨7, ⟨some (.p2 .d6 .d0), (.append 43 6 72 (.t (.p2 .d5 .d12)) (.t (.p2 .d5 .d15))), none⟩, .ev, 1⟩,
  ⟨8, ⟨some (.p2 .d6 .d1), (.ia 6 (.t (.p2 .d6 .d0)) (.t (.p2 .d5 .d14))), none⟩, .pur, 0⟩,
  ⟨10, ⟨some (.p2 .d6 .d2), (.nilc (.t (.p2 .d5 .d9))), none⟩, .pur, 0⟩,
  ⟨11, ⟨some (.p2 .d6 .d3), (.fa (.t (.p2 .d6 .d2)) 1), none⟩, .pur, 0⟩,
  ⟨9, ⟨none, (.st 6 (.t (.p2 .d6 .d1)) (.t (.p2 .d5 .d13))), none⟩, .fst, 2⟩,
  ⟨12, ⟨none, (.st 1 (.t (.p2 .d6 .d3)) (.t (.p2 .d6 .d0))), none⟩, .snd, 2⟩]))))) (.reg [
  ⟨some (.p2 .d6 .d4), (.add (.t (.p2 .d4 .d4)) (.k (.i (.ofNat 1)))), none⟩,
  ⟨some (.p2 .d4 .d4), (.mv (.t (.p2 .d6 .d4))), none⟩]))))))) (.seq (.seq (.reg [
  ⟨some (.p2 .d6 .d5), (.mv (.t (.p2 .d0 .d4))), none⟩,
  ⟨some (.p2 .d6 .d6), (.mkf ⟨17, .d0, .d1, .d1⟩ [(.t (.p2 .d6 .d5))] []), none⟩,
  ⟨some (.p2 .d6 .d7), (.mv (.t (.p2 .d0 .d4))), none⟩,
  ⟨some (.p2 .d6 .d8), (.mkf ⟨18, .d0, .d1, .d2⟩ [(.t (.p2 .d6 .d7))] []), none⟩,
  ⟨some (.p2 .d6 .d9), (.bslice 1 1 2 [.nilf] [(0, (.t (.p2 .d6 .d6))), (1, (.t (.p2 .d6 .d8)))]), none⟩,
  ⟨some (.p2 .d6 .d10), (.len 1 (.t (.p2 .d6 .d9))), none⟩,
  ⟨some (.p2 .d6 .d11), (.mv (.k (.i (.ofNat 0)))), none⟩]) (.block 4 (.loop (.seq (.reg [
  ⟨some (.p2 .d6 .d12), (.lss (.t (.p2 .d6 .d11)) (.t (.p2 .d6 .d10))), none⟩]) (.seq (.cond (.t (.p2 .d6 .d12)) .skip (.exit 4)) (.seq (.block 5 (.seq (.reg [
  ⟨some (.p2 .d6 .d13), (.ia 1 (.t (.p2 .d6 .d9)) (.t (.p2 .d6 .d11))), none⟩,
  ⟨some (.p2 .d6 .d14), (.ld1 (.t (.p2 .d6 .d13))), none⟩,
  ⟨some (.p2 .d0 .d15), (.mv (.t (.p2 .d6 .d14))), none⟩]) (.seq (.reg [
  ⟨some (.p2 .d6 .d15), (.mv (.t (.p2 .d0 .d4))), none⟩,
  ⟨some (.p2 .d7 .d0), (.nilc (.t (.p2 .d6 .d15))), none⟩,
  ⟨some (.p2 .d7 .d1), (.fa (.t (.p2 .d7 .d0)) 3), none⟩,
  ⟨some (.p2 .d7 .d2), (.fa (.t (.p2 .d7 .d1)) 0), none⟩,
  ⟨some (.p2 .d7 .d3), (.fa (.t (.p2 .d7 .d2)) 2), none⟩,
  ⟨some (.p2 .d7 .d4), (.ld1 (.t (.p2 .d7 .d3))), none⟩,
  ⟨some (.p2 .d7 .d5), (.eql (.cell (.int .i64)) (.t (.p2 .d7 .d4)) (.k (.i (.ofNat 0)))), none⟩]) (.cond (.t (.p2 .d7 .d5)) (.reg [
  ⟨some (.p2 .d7 .d6), (.mv (.t (.p2 .d0 .d15))), none⟩,
  ⟨some (.p2 .d7 .d7), (.callv (.t (.p2 .d7 .d6)) []), none⟩]) .skip)))) (.reg [
  ⟨some (.p2 .d7 .d8), (.add (.t (.p2 .d6 .d11)) (.k (.i (.ofNat 1)))), none⟩,
  ⟨some (.p2 .d6 .d11), (.mv (.t (.p2 .d7 .d8))), none⟩]))))))) (.seq (.seq (.reg [
  ⟨some (.p2 .d7 .d9), (.mv (.t (.p2 .d0 .d4))), none⟩,
  ⟨some (.p2 .d7 .d10), (.nilc (.t (.p2 .d7 .d9))), none⟩,
  ⟨some (.p2 .d7 .d11), (.fa (.t (.p2 .d7 .d10)) 3), none⟩,
  ⟨some (.p2 .d7 .d12), (.fa (.t (.p2 .d7 .d11)) 0), none⟩,
  ⟨some (.p2 .d7 .d13), (.fa (.t (.p2 .d7 .d12)) 2), none⟩,
  ⟨some (.p2 .d7 .d14), (.ld1 (.t (.p2 .d7 .d13))), none⟩,
  ⟨some (.p2 .d7 .d15), (.neq (.cell (.int .i64)) (.t (.p2 .d7 .d14)) (.k (.i (.ofNat 0)))), none⟩]) (.cond (.t (.p2 .d7 .d15)) (.seq (.dreg [
  ⟨0, ⟨some (.p2 .d8 .d0), (.mv (.t (.p2 .d0 .d4))), none⟩, .pur, 0⟩,
  ⟨1, ⟨some (.p2 .d8 .d1), (.nilc (.t (.p2 .d8 .d0))), none⟩, .pur, 0⟩,
  ⟨2, ⟨some (.p2 .d8 .d2), (.fa (.t (.p2 .d8 .d1)) 3), none⟩, .pur, 0⟩,
  ⟨3, ⟨some (.p2 .d8 .d3), (.fa (.t (.p2 .d8 .d2)) 0), none⟩, .pur, 0⟩,
  ⟨4, ⟨some (.p2 .d8 .d4), (.ldn 3 (.t (.p2 .d8 .d3))), none⟩, .rd, 0⟩,
  ⟨5, ⟨some (.p2 .d0 .d2), (.mv (.k .nilp)), none⟩, .pur, 0⟩,
  ⟨6, ⟨none, (.st 3 (.t (.p2 .d0 .d3)) (.t (.p2 .d8 .d4))), none⟩, .ev, 0⟩]) .ret) .skip)) (.seq (.reg [
  ⟨some (.p2 .d8 .d5), (.mv (.t (.p2 .d0 .d4))), none⟩,
  ⟨some (.p2 .d8 .d6), (.build [(.i (.ofNat 0)), (.i (.ofNat 0)), (.i (.ofNat 0))] []), none⟩,
  ⟨some (.p2 .d0 .d2), (.mv (.t (.p2 .d8 .d5))), none⟩,
  ⟨none, (.st 3 (.t (.p2 .d0 .d3)) (.t (.p2 .d8 .d6))), none⟩]) .ret))))))), [.tmp (.p2 .d0 .d2), .cell 3 true (.p2 .d0 .d3)]⟩
def cf6 : CF := ⟨6, true, (.seq (.reg [
  ⟨some (.p2 .d0 .d2), (.mv (.k .nils)), none⟩]) (.seq (.seq (.reg [
  ⟨some (.p2 .d0 .d3), (.mv (.t (.p2 .d0 .d0))), none⟩,
  ⟨some (.p2 .d0 .d4), (.eql .ptr (.t (.p2 .d0 .d3)) (.k .nilp)), none⟩]) (.cond (.t (.p2 .d0 .d4)) (.seq (.reg [
  ⟨some (.p2 .d0 .d2), (.mv (.k .nils)), none⟩]) .ret) .skip)) (.seq (.reg [
  ⟨some (.p2 .d0 .d5), (.mv (.t (.p2 .d0 .d0))), none⟩,
  ⟨some (.p2 .d0 .d6), (.nilc (.t (.p2 .d0 .d5))), none⟩,
  ⟨some (.p2 .d0 .d7), (.fa (.t (.p2 .d0 .d6)) 9), none⟩,
  ⟨some (.p2 .d0 .d8), (.ld1 (.t (.p2 .d0 .d7))), none⟩,
  ⟨some (.p2 .d0 .d9), (.call ⟨19, .d0, .d1, .d3⟩ [(.t (.p2 .d0 .d8))]), none⟩,
  ⟨some (.p2 .d0 .d2), (.mv (.t (.p2 .d0 .d9))), none⟩]) .ret))), [.tmp (.p2 .d0 .d2)]⟩
def cf7 : CF := ⟨7, true, (.seq (.reg [
  ⟨some (.p2 .d0 .d6), (.alloc 35 [(.i (.ofNat 0)), (.str 0 0), (.i (.ofNat 0)), (.i (.ofNat 0)), (.str 0 0)]), none⟩,
  ⟨some (.p2 .d0 .d7), (.mv (.k (.bool false))), none⟩]) (.seq (.reg [
  ⟨some (.p2 .d0 .d8), (.mv (.t (.p2 .d0 .d0))), none⟩,
  ⟨some (.p2 .d0 .d9), (.mv (.t (.p2 .d0 .d1))), none⟩,
  ⟨some (.p2 .d0 .d10), (.call ⟨21, .d0, .d1, .d5⟩ [(.t (.p2 .d0 .d8)), (.t (.p2 .d0 .d9))]), none⟩,
  ⟨some (.p2 .d0 .d11), (.mv (.t (.p2 .d0 .d2))), none⟩,
  ⟨some (.p2 .d0 .d12), (.call ⟨20, .d0, .d1, .d4⟩ [(.t (.p2 .d0 .d10)), (.t (.p2 .d0 .d11))]), none⟩,
  ⟨some (.p2 .d0 .d13), (.ext (.t (.p2 .d0 .d12)) 0), none⟩,
  ⟨some (.p2 .d0 .d14), (.ext (.t (.p2 .d0 .d12)) 1), none⟩,
  ⟨none, (.st 5 (.t (.p2 .d0 .d6)) (.t (.p2 .d0 .d13))), none⟩,
  ⟨some (.p2 .d0 .d7), (.mv (.t (.p2 .d0 .d14))), none⟩]) .ret)), [.cell 5 true (.p2 .d0 .d6), .tmp (.p2 .d0 .d7)]⟩
def cf8 : CF := ⟨8, true, (.seq (.reg [
  ⟨some (.p2 .d0 .d2), (.mv (.k (.i (.ofNat 0)))), none⟩]) (.seq (.seq (.reg [
  ⟨some (.p2 .d0 .d3), (.mv (.t (.p2 .d0 .d0))), none⟩,
  ⟨some (.p2 .d0 .d4), (.eql .ptr (.t (.p2 .d0 .d3)) (.k .nilp)), none⟩]) (.cond (.t (.p2 .d0 .d4)) (.seq (.reg [
  ⟨some (.p2 .d0 .d2), (.mv (.k (.i (.ofNat 0)))), none⟩]) .ret) .skip)) (.seq (.reg [
  ⟨some (.p2 .d0 .d5), (.mv (.t (.p2 .d0 .d0))), none⟩,
  ⟨some (.p2 .d0 .d6), (.nilc (.t (.p2 .d0 .d5))), none⟩,
  ⟨some (.p2 .d0 .d7), (.fa (.t (.p2 .d0 .d6)) 0), none⟩,
  ⟨some (.p2 .d0 .d8), (.ld1 (.t (.p2 .d0 .d7))), none⟩,
  ⟨some (.p2 .d0 .d9), (.len 1 (.t (.p2 .d0 .d8))), none⟩,
  ⟨some (.p2 .d0 .d2), (.mv (.t (.p2 .d0 .d9))), none⟩]) .ret))), [.tmp (.p2 .d0 .d2)]⟩
def cf9 : CF := ⟨9, true, (.seq (.reg [
  ⟨some (.p2 .d0 .d4), (.alloc 43 [(.i (.ofNat 0)), (.i (.ofNat 0)), (.i (.ofNat 0)), (.i (.ofNat 0)), (.str 0 0), .nils]), none⟩]) (.seq (.seq (.reg [
  ⟨some (.p2 .d0 .d5), (.mv (.t (.p2 .d0 .d0))), none⟩,
  ⟨some (.p2 .d0 .d6), (.mv (.t (.p2 .d0 .d1))), none⟩,
  ⟨some (.p2 .d0 .d7), (.call ⟨22, .d0, .d1, .d6⟩ [(.t (.p2 .d0 .d5)), (.t (.p2 .d0 .d6))]), none⟩,
  ⟨some (.p2 .d0 .d8), (.not (.t (.p2 .d0 .d7))), none⟩]) (.cond (.t (.p2 .d0 .d8)) (.seq (.reg [
  ⟨some (.p2 .d0 .d9), (.build [(.i (.ofNat 0)), (.i (.ofNat 0)), (.i (.ofNat 0)), (.i (.ofNat 0)), (.str 0 0), .nils] []), none⟩,
  ⟨none, (.st 6 (.t (.p2 .d0 .d4)) (.t (.p2 .d0 .d9))), none⟩]) .ret) .skip)) (.seq (.reg [
  ⟨some (.p2 .d0 .d10), (.mv (.t (.p2 .d0 .d0))), none⟩,
  ⟨some (.p2 .d0 .d11), (.nilc (.t (.p2 .d0 .d10))), none⟩,
  ⟨some (.p2 .d0 .d12), (.fa (.t (.p2 .d0 .d11)) 1), none⟩,
  ⟨some (.p2 .d0 .d13), (.ld1 (.t (.p2 .d0 .d12))), none⟩,
  ⟨some (.p2 .d0 .d14), (.mv (.t (.p2 .d0 .d1))), none⟩,
  ⟨some (.p2 .d0 .d15), (.ia 6 (.t (.p2 .d0 .d13)) (.t (.p2 .d0 .d14))), none⟩,
  ⟨some (.p2 .d1 .d0), (.ldn 6 (.t (.p2 .d0 .d15))), none⟩,
  ⟨none, (.st 6 (.t (.p2 .d0 .d4)) (.t (.p2 .d1 .d0))), none⟩]) .ret))), [.cell 6 true (.p2 .d0 .d4)]⟩
def cf10 : CF := ⟨10, true, (.seq (.reg [
  ⟨some (.p2 .d0 .d0), (.mv (.k (.bool false))), none⟩]) (.seq (.reg [
  ⟨some (.p2 .d0 .d1), (.bslice 3 1 8 [(.i (.ofNat 0))] [(0, (.k (.i (.ofNat 25)))), (1, (.k (.i (.ofNat 7)))), (2, (.k (.i (.ofNat 35)))), (3, (.k (.i (.ofNat 20)))), (4, (.k (.i (.ofNat 45)))), (5, (.k (.i (.ofNat 30)))), (6, (.k (.i (.ofNat 57)))), (7, (.k (.i (.ofNat 7))))]), none⟩,
  ⟨some (.p2 .d0 .d2), (.call ⟨4, .d0, .d0, .d4⟩ [(.k (.str 60 1525833648049938388491603081897360519622422083431411556363038167619552494166025732897107162487610841322809458551662883576302874790585368922977638)), (.t (.p2 .d0 .d1))]), none⟩,
  ⟨some (.p2 .d0 .d3), (.mv (.t (.p2 .d0 .d2))), none⟩,
  ⟨some (.p2 .d0 .d4), (.bslice 3 1 2 [(.i (.ofNat 0))] [(0, (.k (.i (.ofNat 13)))), (1, (.k (.i (.ofNat 19))))]), some ((.p2 .d0 .d3), true)⟩,
  ⟨some (.p2 .d0 .d5), (.call ⟨4, .d0, .d0, .d4⟩ [(.k (.str 27 51473754079292849711938987076555599329878102822693925015985747302)), (.t (.p2 .d0 .d4))]), some ((.p2 .d0 .d3), true)⟩,
  ⟨some (.p2 .d0 .d6), (.pick (.t (.p2 .d0 .d3)) (.t (.p2 .d0 .d5)) (.k (.bool false))), none⟩,
  ⟨some (.p2 .d0 .d0), (.mv (.t (.p2 .d0 .d6))), none⟩]) .ret)), [.tmp (.p2 .d0 .d0)]⟩
def cf11 : CF := ⟨11, true, (.seq (.reg [
  ⟨some (.p2 .d0 .d2), (.mv (.k .nils)), none⟩]) (.seq (.reg [
  ⟨some (.p2 .d0 .d10), (.mv (.t (.p2 .d0 .d0))), none⟩,
  ⟨some (.p2 .d0 .d11), (.call ⟨23, .d0, .d1, .d7⟩ [(.t (.p2 .d0 .d10))]), none⟩,
  ⟨some (.p2 .d0 .d12), (.call ⟨5, .d0, .d0, .d5⟩ [(.t (.p2 .d0 .d11))]), none⟩,
  ⟨some (.p2 .d0 .d9), (.mv (.t (.p2 .d0 .d12))), none⟩,
  ⟨some (.p2 .d0 .d13), (.ext (.t (.p2 .d0 .d9)) 0), none⟩,
  ⟨some (.p2 .d0 .d14), (.ext (.t (.p2 .d0 .d9)) 1), none⟩,
  ⟨some (.p2 .d0 .d4), (.alloc 29 [(.i (.ofNat 0)), (.i (.ofNat 0)), (.i (.ofNat 0))]), none⟩,
  ⟨some (.p2 .d0 .d3), (.mv (.t (.p2 .d0 .d13))), none⟩,
  ⟨none, (.st 3 (.t (.p2 .d0 .d4)) (.t (.p2 .d0 .d14))), none⟩]) (.seq (.seq (.reg [
  ⟨some (.p2 .d0 .d15), (.fa (.t (.p2 .d0 .d4)) 2), none⟩,
  ⟨some (.p2 .d1 .d0), (.ld1 (.t (.p2 .d0 .d15))), none⟩,
  ⟨some (.p2 .d1 .d1), (.neq (.cell (.int .i64)) (.t (.p2 .d1 .d0)) (.k (.i (.ofNat 0)))), none⟩]) (.cond (.t (.p2 .d1 .d1)) (.seq (.reg [
  ⟨some (.p2 .d1 .d2), (.fa (.t (.p2 .d0 .d4)) 2), none⟩,
  ⟨some (.p2 .d1 .d3), (.ld1 (.t (.p2 .d1 .d2))), none⟩,
  ⟨some (.p2 .d1 .d4), (.fa (.t (.p2 .d0 .d4)) 1), none⟩,
  ⟨some (.p2 .d1 .d5), (.ld1 (.t (.p2 .d1 .d4))), none⟩,
  ⟨some (.p2 .d1 .d6), (.sub (.t (.p2 .d1 .d5)) (.k (.i (.ofNat 10)))), none⟩,
  ⟨some (.p2 .d1 .d7), (.bslice 3 1 2 [(.i (.ofNat 0))] [(0, (.t (.p2 .d1 .d3))), (1, (.t (.p2 .d1 .d6)))]), none⟩,
  ⟨some (.p2 .d0 .d2), (.mv (.t (.p2 .d1 .d7))), none⟩]) .ret) .skip)) (.seq (.reg [
  ⟨some (.p2 .d0 .d5), (.mv (.k .nils)), none⟩]) (.seq (.reg [
  ⟨some (.p2 .d1 .d8), (.mv (.t (.p2 .d0 .d3))), none⟩,
  ⟨some (.p2 .d1 .d9), (.call ⟨6, .d0, .d0, .d6⟩ [(.t (.p2 .d1 .d8))]), none⟩,
  ⟨some (.p2 .d0 .d6), (.mv (.t (.p2 .d1 .d9))), none⟩]) (.seq (.seq (.reg [
  ⟨some (.p2 .d0 .d7), (.mv (.k (.i (.ofNat 0)))), none⟩]) (.block 0 (.loop (.seq (.seq (.reg [
  ⟨some (.p2 .d1 .d10), (.mv (.t (.p2 .d0 .d7))), none⟩,
  ⟨some (.p2 .d1 .d11), (.mv (.t (.p2 .d0 .d6))), none⟩,
  ⟨some (.p2 .d1 .d12), (.len 1 (.t (.p2 .d1 .d11))), none⟩,
  ⟨some (.p2 .d1 .d13), (.lss (.t (.p2 .d1 .d10)) (.t (.p2 .d1 .d12))), none⟩]) (.cond (.t (.p2 .d1 .d13)) .skip (.exit 0))) (.seq (.block 1 (.seq (.reg [
  ⟨some (.p2 .d0 .d8), (.mv (.k (.i (.negSucc 0)))), none⟩]) (.seq (.seq (.reg [
  ⟨some (.p2 .d2 .d0), (.mv (.t (.p2 .d0 .d6))), none⟩,
  ⟨some (.p2 .d2 .d1), (.mv (.t (.p2 .d0 .d7))), none⟩,
  ⟨some (.p2 .d2 .d2), (.ia 9 (.t (.p2 .d2 .d0)) (.t (.p2 .d2 .d1))), none⟩,
  ⟨some (.p2 .d2 .d3), (.fa (.t (.p2 .d2 .d2)) 3), none⟩,
  ⟨some (.p2 .d2 .d4), (.ld1 (.t (.p2 .d2 .d3))), none⟩]) (.cond (.t (.p2 .d2 .d4)) (.reg [
  ⟨some (.p2 .d2 .d5), (.mv (.t (.p2 .d0 .d6))), none⟩,
  ⟨some (.p2 .d2 .d6), (.mv (.t (.p2 .d0 .d7))), none⟩,
  ⟨some (.p2 .d2 .d7), (.ia 9 (.t (.p2 .d2 .d5)) (.t (.p2 .d2 .d6))), none⟩,
  ⟨some (.p2 .d2 .d8), (.fa (.t (.p2 .d2 .d7)) 4), none⟩,
  ⟨some (.p2 .d2 .d9), (.fa (.t (.p2 .d2 .d8)) 3), none⟩,
  ⟨some (.p2 .d2 .d10), (.ld1 (.t (.p2 .d2 .d9))), none⟩,
  ⟨some (.p2 .d2 .d11), (.sub (.t (.p2 .d2 .d10)) (.k (.i (.ofNat 10)))), none⟩,
  ⟨some (.p2 .d0 .d8), (.mv (.t (.p2 .d2 .d11))), none⟩]) .skip)) (.reg [
  ⟨some (.p2 .d2 .d12), (.mv (.t (.p2 .d0 .d5))), none⟩,
  ⟨some (.p2 .d2 .d13), (.mv (.t (.p2 .d0 .d6))), none⟩,
  ⟨some (.p2 .d2 .d14), (.mv (.t (.p2 .d0 .d7))), none⟩,
  ⟨some (.p2 .d2 .d15), (.ia 9 (.t (.p2 .d2 .d13)) (.t (.p2 .d2 .d14))), none⟩,
  ⟨some (.p2 .d3 .d0), (.fa (.t (.p2 .d2 .d15)) 1), none⟩,
  ⟨some (.p2 .d3 .d1), (.ld1 (.t (.p2 .d3 .d0))), none⟩,
  ⟨some (.p2 .d3 .d2), (.sub (.t (.p2 .d3 .d1)) (.k (.i (.ofNat 10)))), none⟩,
  ⟨some (.p2 .d3 .d3), (.mv (.t (.p2 .d0 .d8))), none⟩,
  ⟨some (.p2 .d3 .d4), (.bslice 3 1 2 [(.i (.ofNat 0))] [(0, (.t (.p2 .d3 .d2))), (1, (.t (.p2 .d3 .d3)))]), none⟩,
  ⟨some (.p2 .d3 .d5), (.append 3 1 8 (.t (.p2 .d2 .d12)) (.t (.p2 .d3 .d4))), none⟩,
  ⟨some (.p2 .d0 .d5), (.mv (.t (.p2 .d3 .d5))), none⟩])))) (.reg [
  ⟨some (.p2 .d1 .d14), (.mv (.t (.p2 .d0 .d7))), none⟩,
  ⟨some (.p2 .d1 .d15), (.add (.t (.p2 .d1 .d14)) (.k (.i (.ofNat 1)))), none⟩,
  ⟨some (.p2 .d0 .d7), (.mv (.t (.p2 .d1 .d15))), none⟩])))))) (.seq (.reg [
  ⟨some (.p2 .d3 .d6), (.mv (.t (.p2 .d0 .d5))), none⟩,
  ⟨some (.p2 .d0 .d2), (.mv (.t (.p2 .d3 .d6))), none⟩]) .ret))))))), [.tmp (.p2 .d0 .d2)]⟩
def cf12 : CF := ⟨12, true, (.seq (.reg [
  ⟨some (.p2 .d0 .d2), (.mv (.k .nils)), none⟩]) (.seq (.seq (.reg [
  ⟨some (.p2 .d0 .d3), (.mv (.t (.p2 .d0 .d0))), none⟩,
  ⟨some (.p2 .d0 .d4), (.eql .slice (.t (.p2 .d0 .d3)) (.k .nils)), none⟩]) (.cond (.t (.p2 .d0 .d4)) (.seq (.reg [
  ⟨some (.p2 .d0 .d2), (.mv (.k .nils)), none⟩]) .ret) .skip)) (.seq (.reg [
  ⟨some (.p2 .d0 .d5), (.bslice 24 3 0 [(.str 0 0), (.str 0 0), (.i (.ofNat 0))] []), none⟩,
  ⟨some (.p2 .d0 .d6), (.mv (.t (.p2 .d0 .d0))), none⟩,
  ⟨some (.p2 .d0 .d7), (.append 24 3 40 (.t (.p2 .d0 .d5)) (.t (.p2 .d0 .d6))), none⟩,
  ⟨some (.p2 .d0 .d2), (.mv (.t (.p2 .d0 .d7))), none⟩]) .ret))), [.tmp (.p2 .d0 .d2)]⟩
def cf13 : CF := ⟨13, true, (.seq (.reg [
  ⟨some (.p2 .d0 .d2), (.mv (.k (.str 0 0))), none⟩,
  ⟨some (.p2 .d0 .d3), (.mv (.k (.bool false))), none⟩]) (.seq (.reg [
  ⟨some (.p2 .d0 .d12), (.mv (.t (.p2 .d0 .d0))), none⟩,
  ⟨some (.p2 .d0 .d13), (.call ⟨24, .d0, .d1, .d8⟩ [(.t (.p2 .d0 .d12)), (.k (.str 8 3399988171544226150))]), none⟩,
  ⟨some (.p2 .d0 .d11), (.mv (.t (.p2 .d0 .d13))), none⟩,
  ⟨some (.p2 .d0 .d14), (.ext (.t (.p2 .d0 .d11)) 0), none⟩,
  ⟨some (.p2 .d0 .d15), (.ext (.t (.p2 .d0 .d11)) 1), none⟩,
  ⟨some (.p2 .d0 .d4), (.mv (.t (.p2 .d0 .d14))), none⟩,
  ⟨some (.p2 .d0 .d5), (.mv (.t (.p2 .d0 .d15))), none⟩]) (.seq (.reg [
  ⟨some (.p2 .d1 .d1), (.mv (.t (.p2 .d0 .d4))), none⟩,
  ⟨some (.p2 .d1 .d2), (.call ⟨25, .d0, .d1, .d9⟩ [(.t (.p2 .d1 .d1)), (.k (.str 1 47))]), none⟩,
  ⟨some (.p2 .d1 .d0), (.mv (.t (.p2 .d1 .d2))), none⟩,
  ⟨some (.p2 .d1 .d3), (.ext (.t (.p2 .d1 .d0)) 0), none⟩,
  ⟨some (.p2 .d1 .d4), (.ext (.t (.p2 .d1 .d0)) 1), none⟩,
  ⟨some (.p2 .d1 .d5), (.ext (.t (.p2 .d1 .d0)) 2), none⟩,
  ⟨some (.p2 .d0 .d6), (.mv (.t (.p2 .d1 .d3))), none⟩,
  ⟨some (.p2 .d0 .d7), (.mv (.t (.p2 .d1 .d4))), none⟩,
  ⟨some (.p2 .d0 .d8), (.mv (.t (.p2 .d1 .d5))), none⟩]) (.seq (.reg [
  ⟨some (.p2 .d1 .d7), (.mv (.t (.p2 .d0 .d7))), none⟩,
  ⟨some (.p2 .d1 .d8), (.call ⟨26, .d0, .d1, .d10⟩ [(.t (.p2 .d1 .d7)), (.k (.str 3 7300910))]), none⟩,
  ⟨some (.p2 .d1 .d6), (.mv (.t (.p2 .d1 .d8))), none⟩,
  ⟨some (.p2 .d1 .d9), (.ext (.t (.p2 .d1 .d6)) 0), none⟩,
  ⟨some (.p2 .d1 .d10), (.ext (.t (.p2 .d1 .d6)) 1), none⟩,
  ⟨some (.p2 .d0 .d9), (.mv (.t (.p2 .d1 .d9))), none⟩,
  ⟨some (.p2 .d0 .d10), (.mv (.t (.p2 .d1 .d10))), none⟩]) (.seq (.seq (.reg [
  ⟨some (.p2 .d1 .d11), (.mv (.t (.p2 .d0 .d5))), none⟩,
  ⟨some (.p2 .d1 .d12), (.not (.t (.p2 .d1 .d11))), none⟩,
  ⟨some (.p2 .d1 .d13), (.mv (.t (.p2 .d1 .d12))), none⟩,
  ⟨some (.p2 .d1 .d14), (.mv (.t (.p2 .d0 .d8))), some ((.p2 .d1 .d13), false)⟩,
  ⟨some (.p2 .d1 .d15), (.not (.t (.p2 .d1 .d14))), some ((.p2 .d1 .d13), false)⟩,
  ⟨some (.p2 .d2 .d0), (.pick (.t (.p2 .d1 .d13)) (.k (.bool true)) (.t (.p2 .d1 .d15))), none⟩,
  ⟨some (.p2 .d2 .d1), (.mv (.t (.p2 .d2 .d0))), none⟩,
  ⟨some (.p2 .d2 .d2), (.mv (.t (.p2 .d0 .d10))), some ((.p2 .d2 .d1), false)⟩,
  ⟨some (.p2 .d2 .d3), (.not (.t (.p2 .d2 .d2))), some ((.p2 .d2 .d1), false)⟩,
  ⟨some (.p2 .d2 .d4), (.pick (.t (.p2 .d2 .d1)) (.k (.bool true)) (.t (.p2 .d2 .d3))), none⟩,
  ⟨some (.p2 .d2 .d5), (.mv (.t (.p2 .d2 .d4))), none⟩,
  ⟨some (.p2 .d2 .d6), (.mv (.t (.p2 .d0 .d6))), some ((.p2 .d2 .d5), false)⟩,
  ⟨some (.p2 .d2 .d7), (.call ⟨27, .d0, .d1, .d11⟩ [(.t (.p2 .d2 .d6))]), some ((.p2 .d2 .d5), false)⟩,
  ⟨some (.p2 .d2 .d8), (.not (.t (.p2 .d2 .d7))), some ((.p2 .d2 .d5), false)⟩,
  ⟨some (.p2 .d2 .d9), (.pick (.t (.p2 .d2 .d5)) (.k (.bool true)) (.t (.p2 .d2 .d8))), none⟩,
  ⟨some (.p2 .d2 .d10), (.mv (.t (.p2 .d2 .d9))), none⟩,
  ⟨some (.p2 .d2 .d11), (.mv (.t (.p2 .d0 .d6))), some ((.p2 .d2 .d10), false)⟩,
  ⟨some (.p2 .d2 .d12), (.call ⟨28, .d0, .d1, .d12⟩ [(.t (.p2 .d2 .d11))]), some ((.p2 .d2 .d10), false)⟩,
  ⟨some (.p2 .d2 .d13), (.pick (.t (.p2 .d2 .d10)) (.k (.bool true)) (.t (.p2 .d2 .d12))), none⟩,
  ⟨some (.p2 .d2 .d14), (.mv (.t (.p2 .d2 .d13))), none⟩,
  ⟨some (.p2 .d2 .d15), (.mv (.t (.p2 .d0 .d9))), some ((.p2 .d2 .d14), false)⟩,
  ⟨some (.p2 .d3 .d0), (.call ⟨27, .d0, .d1, .d11⟩ [(.t (.p2 .d2 .d15))]), some ((.p2 .d2 .d14), false)⟩,
  ⟨some (.p2 .d3 .d1), (.not (.t (.p2 .d3 .d0))), some ((.p2 .d2 .d14), false)⟩,
  ⟨some (.p2 .d3 .d2), (.pick (.t (.p2 .d2 .d14)) (.k (.bool true)) (.t (.p2 .d3 .d1))), none⟩]) (.cond (.t (.p2 .d3 .d2)) (.seq (.reg [
  ⟨some (.p2 .d0 .d2), (.mv (.k (.str 0 0))), none⟩,
  ⟨some (.p2 .d0 .d3), (.mv (.k (.bool false))), none⟩]) .ret) .skip)) (.seq (.reg [
  ⟨some (.p2 .d3 .d3), (.mv (.t (.p2 .d0 .d6))), none⟩,
  ⟨some (.p2 .d0 .d2), (.mv (.t (.p2 .d3 .d3))), none⟩,
  ⟨some (.p2 .d0 .d3), (.mv (.k (.bool true))), none⟩]) .ret)))))), [.tmp (.p2 .d0 .d2), .tmp (.p2 .d0 .d3)]⟩
def cf14 : CF := ⟨14, true, (.seq (.reg [
  ⟨some (.p2 .d0 .d4), (.mv (.k (.i (.ofNat 0)))), none⟩]) (.seq (.reg [
  ⟨some (.p2 .d0 .d5), (.mv (.t (.p2 .d0 .d0))), none⟩,
  ⟨some (.p2 .d0 .d6), (.mv (.t (.p2 .d0 .d1))), none⟩,
  ⟨some (.p2 .d0 .d7), (.call ⟨29, .d0, .d1, .d13⟩ [(.t (.p2 .d0 .d5)), (.t (.p2 .d0 .d6))]), none⟩,
  ⟨some (.p2 .d0 .d4), (.mv (.t (.p2 .d0 .d7))), none⟩]) .ret)), [.tmp (.p2 .d0 .d4)]⟩
def cf15 : CF := ⟨15, true, (.seq (.reg [
  ⟨some (.p2 .d0 .d2), (.alloc 43 [(.i (.ofNat 0)), (.i (.ofNat 0)), (.i (.ofNat 0)), (.i (.ofNat 0)), (.str 0 0), .nils]), none⟩,
  ⟨some (.p2 .d0 .d3), (.alloc 3 [(.i (.ofNat 0))]), none⟩,
  ⟨some (.p2 .d0 .d4), (.alloc 27 [(.i (.ofNat 0))]), none⟩]) (.seq (.reg [
  ⟨some (.p2 .d0 .d9), (.mv (.t (.p2 .d0 .d0))), none⟩,
  ⟨some (.p2 .d0 .d10), (.call ⟨30, .d0, .d1, .d14⟩ [(.t (.p2 .d0 .d9))]), none⟩,
  ⟨some (.p2 .d0 .d8), (.mv (.t (.p2 .d0 .d10))), none⟩,
  ⟨some (.p2 .d0 .d11), (.ext (.t (.p2 .d0 .d8)) 0), none⟩,
  ⟨some (.p2 .d0 .d12), (.ext (.t (.p2 .d0 .d8)) 1), none⟩,
  ⟨some (.p2 .d0 .d13), (.ext (.t (.p2 .d0 .d8)) 2), none⟩,
  ⟨some (.p2 .d0 .d5), (.mv (.t (.p2 .d0 .d11))), none⟩,
  ⟨none, (.st 1 (.t (.p2 .d0 .d3)) (.t (.p2 .d0 .d12))), none⟩,
  ⟨none, (.st 1 (.t (.p2 .d0 .d4)) (.t (.p2 .d0 .d13))), none⟩]) (.seq (.seq (.reg [
  ⟨some (.p2 .d0 .d14), (.ld1 (.t (.p2 .d0 .d4))), none⟩,
  ⟨some (.p2 .d0 .d15), (.neq (.cell (.int .i64)) (.t (.p2 .d0 .d14)) (.k (.i (.ofNat 0)))), none⟩]) (.cond (.t (.p2 .d0 .d15)) (.seq (.dreg [
  ⟨0, ⟨some (.p2 .d1 .d0), (.build [(.i (.ofNat 0)), (.i (.ofNat 0)), (.i (.ofNat 0)), (.i (.ofNat 0)), (.str 0 0), .nils] []), none⟩, .pur, 0⟩,
  ⟨1, ⟨some (.p2 .d1 .d1), (.ld1 (.t (.p2 .d0 .d3))), none⟩, .rd, 1⟩,
  ⟨2, ⟨some (.p2 .d1 .d2), (.ld1 (.t (.p2 .d0 .d4))), none⟩, .rd, 2⟩,
  ⟨3, ⟨none, (.st 6 (.t (.p2 .d0 .d2)) (.t (.p2 .d1 .d0))), none⟩, .ev, 0⟩,
  ⟨4, ⟨none, (.st 1 (.t (.p2 .d0 .d3)) (.t (.p2 .d1 .d1))), none⟩, .ev, 1⟩,
  ⟨5, ⟨none, (.st 1 (.t (.p2 .d0 .d4)) (.t (.p2 .d1 .d2))), none⟩, .ev, 2⟩]) .ret) .skip)) (.seq (.reg [
  ⟨some (.p2 .d1 .d3), (.mkf ⟨31, .d0, .d1, .d15⟩ [] [(.t (.p2 .d0 .d2)), (.t (.p2 .d0 .d3)), (.t (.p2 .d0 .d4))]), none⟩,
  ⟨none, (.dfr (.t (.p2 .d1 .d3)) []), none⟩]) (.seq (.reg [
  ⟨some (.p2 .d1 .d4), (.mv (.t (.p2 .d0 .d5))), none⟩,
  ⟨some (.p2 .d1 .d5), (.mv (.t (.p2 .d0 .d0))), none⟩,
  ⟨some (.p2 .d1 .d6), (.len 0 (.t (.p2 .d1 .d5))), none⟩,
  ⟨some (.p2 .d1 .d7), (.mv (.t (.p2 .d0 .d0))), none⟩,
  ⟨some (.p2 .d1 .d8), (.len 0 (.t (.p2 .d1 .d7))), none⟩,
  ⟨some (.p2 .d1 .d9), (.build [(.i (.ofNat 0)), (.str 0 0), (.i (.ofNat 0)), (.i (.ofNat 0))] [(2, 1, (.t (.p2 .d1 .d6))), (3, 1, (.t (.p2 .d1 .d8)))]), none⟩,
  ⟨some (.p2 .d1 .d10), (.bslice 80 4 1 [(.i (.ofNat 0)), (.str 0 0), (.i (.ofNat 0)), (.i (.ofNat 0))] [(0, (.t (.p2 .d1 .d9)))]), none⟩,
  ⟨some (.p2 .d1 .d11), (.append 80 4 40 (.t (.p2 .d1 .d4)) (.t (.p2 .d1 .d10))), none⟩,
  ⟨some (.p2 .d1 .d12), (.build [.nils, (.i (.ofNat 0)), (.i (.ofNat 0)), (.bool false)] [(0, 1, (.t (.p2 .d1 .d11)))]), none⟩,
  ⟨some (.p2 .d1 .d13), (.box 82 4 (.t (.p2 .d1 .d12))), none⟩,
  ⟨some (.p2 .d0 .d6), (.mv (.t (.p2 .d1 .d13))), none⟩]) (.seq (.reg [
  ⟨some (.p2 .d1 .d14), (.mv (.t (.p2 .d0 .d6))), none⟩,
  ⟨some (.p2 .d1 .d15), (.mv (.t (.p2 .d0 .d0))), none⟩,
  ⟨some (.p2 .d2 .d0), (.len 0 (.t (.p2 .d1 .d15))), none⟩,
  ⟨some (.p2 .d2 .d1), (.call ⟨32, .d0, .d2, .d0⟩ [(.t (.p2 .d1 .d14)), (.t (.p2 .d2 .d0))]), none⟩,
  ⟨none, (.st 6 (.t (.p2 .d0 .d2)) (.t (.p2 .d2 .d1))), none⟩]) (.seq (.seq (.reg [
  ⟨some (.p2 .d2 .d2), (.ldn 6 (.t (.p2 .d0 .d2))), none⟩,
  ⟨some (.p2 .d2 .d3), (.mv (.t (.p2 .d0 .d0))), none⟩,
  ⟨some (.p2 .d2 .d4), (.len 0 (.t (.p2 .d2 .d3))), none⟩,
  ⟨some (.p2 .d2 .d5), (.add (.t (.p2 .d2 .d4)) (.k (.i (.ofNat 1)))), none⟩,
  ⟨some (.p2 .d2 .d6), (.call ⟨33, .d0, .d2, .d1⟩ [(.t (.p2 .d2 .d2)), (.k (.i (.ofNat 64))), (.t (.p2 .d2 .d5))]), none⟩,
  ⟨some (.p2 .d0 .d7), (.mv (.t (.p2 .d2 .d6))), none⟩]) (.seq (.reg [
  ⟨some (.p2 .d2 .d7), (.mv (.t (.p2 .d0 .d7))), none⟩,
  ⟨some (.p2 .d2 .d8), (.mv (.t (.p2 .d0 .d0))), none⟩,
  ⟨some (.p2 .d2 .d9), (.len 0 (.t (.p2 .d2 .d8))), none⟩,
  ⟨some (.p2 .d2 .d10), (.leq (.t (.p2 .d2 .d7)) (.t (.p2 .d2 .d9))), none⟩]) (.cond (.t (.p2 .d2 .d10)) (.seq (.reg [
  ⟨some (.p2 .d2 .d11), (.build [(.i (.ofNat 0)), (.i (.ofNat 0)), (.i (.ofNat 0)), (.i (.ofNat 0)), (.str 0 0), .nils] []), none⟩,
  ⟨some (.p2 .d2 .d12), (.mv (.t (.p2 .d0 .d7))), none⟩,
  ⟨none, (.st 6 (.t (.p2 .d0 .d2)) (.t (.p2 .d2 .d11))), none⟩,
  ⟨none, (.st 1 (.t (.p2 .d0 .d3)) (.t (.p2 .d2 .d12))), none⟩,
  ⟨none, (.st 1 (.t (.p2 .d0 .d4)) (.k (.i (.ofNat 3)))), none⟩]) .ret) .skip))) (.seq (.reg [
  ⟨some (.p2 .d2 .d13), (.ldn 6 (.t (.p2 .d0 .d2))), none⟩,
  ⟨none, (.st 6 (.t (.p2 .d0 .d2)) (.t (.p2 .d2 .d13))), none⟩,
  ⟨none, (.st 1 (.t (.p2 .d0 .d3)) (.k (.i (.ofNat 0)))), none⟩,
  ⟨none, (.st 1 (.t (.p2 .d0 .d4)) (.k (.i (.ofNat 0)))), none⟩]) .ret)))))))), [.cell 6 true (.p2 .d0 .d2), .cell 1 false (.p2 .d0 .d3), .cell 1 false (.p2 .d0 .d4)]⟩
def cf16 : CF := ⟨16, true, (.seq (.reg [
  ⟨some (.p2 .d0 .d9), (.mv (.t (.p2 .d0 .d1))), none⟩,
  ⟨some (.p2 .d0 .d10), (.mv (.t (.p2 .d0 .d2))), none⟩,
  ⟨some (.p2 .d0 .d11), (.mv (.t (.p2 .d0 .d3))), none⟩,
  ⟨some (.p2 .d0 .d12), (.build [(.i (.ofNat 0)), (.i (.ofNat 0)), (.i (.ofNat 0))] [(0, 1, (.t (.p2 .d0 .d9))), (1, 1, (.t (.p2 .d0 .d10))), (2, 1, (.t (.p2 .d0 .d11)))]), none⟩,
  ⟨some (.p2 .d0 .d8), (.alloc 29 [(.i (.ofNat 0)), (.i (.ofNat 0)), (.i (.ofNat 0))]), none⟩,
  ⟨none, (.st 3 (.t (.p2 .d0 .d8)) (.t (.p2 .d0 .d12))), none⟩]) (.seq (.dreg [
  ⟨0, ⟨some (.p2 .d0 .d13), (.mv (.t (.p2 .d0 .d0))), none⟩, .pur, 0⟩,
  ⟨1, ⟨some (.p2 .d0 .d14), (.nilc (.t (.p2 .d0 .d13))), none⟩, .pur, 0⟩,
  ⟨2, ⟨some (.p2 .d0 .d15), (.fa (.t (.p2 .d0 .d14)) 0), none⟩, .pur, 0⟩,
  ⟨3, ⟨some (.p2 .d1 .d0), (.fa (.t (.p2 .d0 .d15)) 2), none⟩, .pur, 0⟩,
  ⟨4, ⟨some (.p2 .d1 .d1), (.ld1 (.t (.p2 .d1 .d0))), none⟩, .rd, 0⟩,
  ⟨5, ⟨some (.p2 .d1 .d2), (.eql (.cell (.int .i64)) (.t (.p2 .d1 .d1)) (.k (.i (.ofNat 0)))), none⟩, .pur, 0⟩,
  ⟨6, ⟨some (.p2 .d1 .d3), (.mv (.t (.p2 .d1 .d2))), none⟩, .pur, 0⟩,
  ⟨7, ⟨some (.p2 .d1 .d4), (.ldn 3 (.t (.p2 .d0 .d8))), some ((.p2 .d1 .d3), false)⟩, .rd, 0⟩,
  ⟨8, ⟨some (.p2 .d1 .d5), (.mv (.t (.p2 .d0 .d0))), some ((.p2 .d1 .d3), false)⟩, .pur, 0⟩,
  ⟨9, ⟨some (.p2 .d1 .d6), (.nilc (.t (.p2 .d1 .d5))), some ((.p2 .d1 .d3), false)⟩, .pur, 0⟩,
  ⟨10, ⟨some (.p2 .d1 .d7), (.fa (.t (.p2 .d1 .d6)) 0), some ((.p2 .d1 .d3), false)⟩, .pur, 0⟩,
  ⟨11, ⟨some (.p2 .d1 .d8), (.ldn 3 (.t (.p2 .d1 .d7))), some ((.p2 .d1 .d3), false)⟩, .rd, 0⟩,
  ⟨12, ⟨some (.p2 .d1 .d9), (.call ⟨34, .d0, .d2, .d2⟩ [(.t (.p2 .d1 .d4)), (.t (.p2 .d1 .d8))]), some ((.p2 .d1 .d3), false)⟩, .ev, 0⟩,
  ⟨13, ⟨some (.p2 .d1 .d10), (.lss (.t (.p2 .d1 .d9)) (.k (.i (.ofNat 0)))), some ((.p2 .d1 .d3), false)⟩, .pur, 0⟩,
  ⟨14, ⟨some (.p2 .d1 .d11), (.pick (.t (.p2 .d1 .d3)) (.k (.bool true)) (.t (.p2 .d1 .d10))), none⟩, .pur, 0⟩]) (.cond (.t (.p2 .d1 .d11)) (.reg [
  ⟨some (.p2 .d1 .d12), (.mv (.t (.p2 .d0 .d0))), none⟩,
  ⟨some (.p2 .d1 .d13), (.ldn 3 (.t (.p2 .d0 .d8))), none⟩,
  ⟨some (.p2 .d1 .d14), (.nilc (.t (.p2 .d1 .d12))), none⟩,
  ⟨some (.p2 .d1 .d15), (.fa (.t (.p2 .d1 .d14)) 0), none⟩,
  ⟨none, (.st 3 (.t (.p2 .d1 .d15)) (.t (.p2 .d1 .d13))), none⟩]) .skip))), []⟩
def cf17 : CF := ⟨17, true, (.seq (.reg [
  ⟨some (.p2 .d0 .d7), (.mv (.t (.p2 .d0 .d0))), none⟩,
  ⟨some (.p2 .d0 .d8), (.nilc (.t (.p2 .d0 .d7))), none⟩,
  ⟨some (.p2 .d0 .d9), (.fa (.t (.p2 .d0 .d8)) 1), none⟩,
  ⟨some (.p2 .d0 .d10), (.ld1 (.t (.p2 .d0 .d9))), none⟩,
  ⟨some (.p2 .d0 .d11), (.len 1 (.t (.p2 .d0 .d10))), none⟩,
  ⟨some (.p2 .d0 .d12), (.mv (.k (.i (.ofNat 0)))), none⟩]) (.block 0 (.loop (.seq (.reg [
  ⟨some (.p2 .d0 .d13), (.lss (.t (.p2 .d0 .d12)) (.t (.p2 .d0 .d11))), none⟩]) (.seq (.cond (.t (.p2 .d0 .d13)) .skip (.exit 0)) (.seq (.block 1 (.seq (.reg [
  ⟨some (.p2 .d0 .d14), (.mv (.t (.p2 .d0 .d12))), none⟩,
  ⟨some (.p2 .d0 .d15), (.ia 6 (.t (.p2 .d0 .d10)) (.t (.p2 .d0 .d12))), none⟩,
  ⟨some (.p2 .d1 .d0), (.ldn 6 (.t (.p2 .d0 .d15))), none⟩,
  ⟨some (.p2 .d0 .d3), (.alloc 43 [(.i (.ofNat 0)), (.i (.ofNat 0)), (.i (.ofNat 0)), (.i (.ofNat 0)), (.str 0 0), .nils]), none⟩,
  ⟨some (.p2 .d0 .d2), (.mv (.t (.p2 .d0 .d14))), none⟩,
  ⟨none, (.st 6 (.t (.p2 .d0 .d3)) (.t (.p2 .d1 .d0))), none⟩]) (.seq (.seq (.dreg [
  ⟨0, ⟨some (.p2 .d1 .d1), (.fa (.t (.p2 .d0 .d3)) 4), none⟩, .pur, 0⟩,
  ⟨1, ⟨some (.p2 .d1 .d2), (.ld1 (.t (.p2 .d1 .d1))), none⟩, .rd, 11⟩,
  ⟨2, ⟨some (.p2 .d1 .d3), (.mv (.t (.p2 .d0 .d0))), none⟩, .pur, 0⟩,
  ⟨3, ⟨some (.p2 .d1 .d4), (.nilc (.t (.p2 .d1 .d3))), none⟩, .pur, 0⟩,
  ⟨4, ⟨some (.p2 .d1 .d5), (.fa (.t (.p2 .d1 .d4)) 2), none⟩, .pur, 0⟩,
  ⟨5, ⟨some (.p2 .d1 .d6), (.ld1 (.t (.p2 .d1 .d5))), none⟩, .rd, 11⟩,
  ⟨6, ⟨some (.p2 .d1 .d7), (.mv (.t (.p2 .d0 .d2))), none⟩, .pur, 0⟩,
  ⟨7, ⟨some (.p2 .d1 .d8), (.ia 1 (.t (.p2 .d1 .d6)) (.t (.p2 .d1 .d7))), none⟩, .pur, 0⟩,
  ⟨8, ⟨some (.p2 .d1 .d9), (.ld1 (.t (.p2 .d1 .d8))), none⟩, .rd, 11⟩,
  ⟨9, ⟨some (.p2 .d1 .d10), (.neq (.cell .str) (.t (.p2 .d1 .d2)) (.t (.p2 .d1 .d9))), none⟩, .pur, 0⟩]) (.cond (.t (.p2 .d1 .d10)) (.dreg [
  ⟨0, ⟨some (.p2 .d1 .d11), (.mv (.t (.p2 .d0 .d0))), none⟩, .pur, 0⟩,
  ⟨1, ⟨some (.p2 .d1 .d12), (.nilc (.t (.p2 .d1 .d11))), none⟩, .pur, 0⟩,
  ⟨2, ⟨some (.p2 .d1 .d13), (.fa (.t (.p2 .d1 .d12)) 3), none⟩, .pur, 0⟩,
  ⟨3, ⟨some (.p2 .d1 .d14), (.mv (.t (.p2 .d0 .d2))), none⟩, .pur, 0⟩,
  ⟨4, ⟨some (.p2 .d1 .d15), (.fa (.t (.p2 .d0 .d3)) 3), none⟩, .pur, 0⟩,
  ⟨5, ⟨some (.p2 .d2 .d0), (.ld1 (.t (.p2 .d1 .d15))), none⟩, .rd, 0⟩,
  ⟨6, ⟨some (.p2 .d2 .d1), (.call ⟨16, .d0, .d1, .d0⟩ [(.t (.p2 .d1 .d13)), (.t (.p2 .d1 .d14)), (.t (.p2 .d2 .d0)), (.k (.i (.ofNat 9)))]), none⟩, .ev, 0⟩]) .skip)) (.seq (.reg [
  ⟨some (.p2 .d2 .d2), .mkmap, none⟩,
  ⟨some (.p2 .d0 .d4), (.mv (.t (.p2 .d2 .d2))), none⟩]) (.seq (.reg [
  ⟨some (.p2 .d2 .d3), (.fa (.t (.p2 .d0 .d3)) 5), none⟩,
  ⟨some (.p2 .d2 .d4), (.ld1 (.t (.p2 .d2 .d3))), none⟩,
  ⟨some (.p2 .d2 .d5), (.len 1 (.t (.p2 .d2 .d4))), none⟩,
  ⟨some (.p2 .d2 .d6), (.mv (.k (.i (.ofNat 0)))), none⟩]) (.block 2 (.loop (.seq (.reg [
  ⟨some (.p2 .d2 .d7), (.lss (.t (.p2 .d2 .d6)) (.t (.p2 .d2 .d5))), none⟩]) (.seq (.cond (.t (.p2 .d2 .d7)) .skip (.exit 2)) (.seq (.block 3 (.seq (.reg [
  ⟨some (.p2 .d2 .d8), (.ia 6 (.t (.p2 .d2 .d4)) (.t (.p2 .d2 .d6))), none⟩,
  ⟨some (.p2 .d2 .d9), (.ldn 6 (.t (.p2 .d2 .d8))), none⟩,
  ⟨some (.p2 .d0 .d6), (.alloc 43 [(.i (.ofNat 0)), (.i (.ofNat 0)), (.i (.ofNat 0)), (.i (.ofNat 0)), (.str 0 0), .nils]), none⟩,
  ⟨none, (.st 6 (.t (.p2 .d0 .d6)) (.t (.p2 .d2 .d9))), none⟩]) (.seq (.seq (.reg [
  ⟨some (.p2 .d2 .d10), (.fa (.t (.p2 .d0 .d6)) 0), none⟩,
  ⟨some (.p2 .d2 .d11), (.ld1 (.t (.p2 .d2 .d10))), none⟩,
  ⟨some (.p2 .d2 .d12), (.neq (.cell (.int .i64)) (.t (.p2 .d2 .d11)) (.k (.i (.ofNat 2)))), none⟩]) (.cond (.t (.p2 .d2 .d12)) (.exit 3) .skip)) (.seq (.seq (.reg [
  ⟨some (.p2 .d2 .d13), (.mv (.t (.p2 .d0 .d4))), none⟩,
  ⟨some (.p2 .d2 .d14), (.fa (.t (.p2 .d0 .d6)) 4), none⟩,
  ⟨some (.p2 .d2 .d15), (.ld1 (.t (.p2 .d2 .d14))), none⟩,
  ⟨some (.p2 .d3 .d0), (.lkp (.cell .str) (.i (.ofNat 0)) (.t (.p2 .d2 .d13)) (.t (.p2 .d2 .d15)) false), none⟩,
  ⟨some (.p2 .d3 .d1), (.add (.t (.p2 .d3 .d0)) (.k (.i (.ofNat 1)))), none⟩,
  ⟨none, (.mupd (.cell .str) (.t (.p2 .d2 .d13)) (.t (.p2 .d2 .d15)) (.t (.p2 .d3 .d1))), none⟩]) (.seq (.reg [
  ⟨some (.p2 .d3 .d2), (.mv (.t (.p2 .d0 .d4))), none⟩,
  ⟨some (.p2 .d3 .d3), (.fa (.t (.p2 .d0 .d6)) 4), none⟩,
  ⟨some (.p2 .d3 .d4), (.ld1 (.t (.p2 .d3 .d3))), none⟩,
  ⟨some (.p2 .d3 .d5), (.lkp (.cell .str) (.i (.ofNat 0)) (.t (.p2 .d3 .d2)) (.t (.p2 .d3 .d4)) false), none⟩,
  ⟨some (.p2 .d3 .d6), (.gtr (.t (.p2 .d3 .d5)) (.k (.i (.ofNat 1)))), none⟩]) (.cond (.t (.p2 .d3 .d6)) (.dreg [
  ⟨0, ⟨some (.p2 .d3 .d7), (.mv (.t (.p2 .d0 .d0))), none⟩, .pur, 0⟩,
  ⟨1, ⟨some (.p2 .d3 .d8), (.nilc (.t (.p2 .d3 .d7))), none⟩, .pur, 0⟩,
  ⟨2, ⟨some (.p2 .d3 .d9), (.fa (.t (.p2 .d3 .d8)) 3), none⟩, .pur, 0⟩,
  ⟨3, ⟨some (.p2 .d3 .d10), (.mv (.t (.p2 .d0 .d2))), none⟩, .pur, 0⟩,
  ⟨4, ⟨some (.p2 .d3 .d11), (.fa (.t (.p2 .d0 .d6)) 3), none⟩, .pur, 0⟩,
  ⟨5, ⟨some (.p2 .d3 .d12), (.ld1 (.t (.p2 .d3 .d11))), none⟩, .rd, 0⟩,
  ⟨6, ⟨some (.p2 .d3 .d13), (.call ⟨16, .d0, .d1, .d0⟩ [(.t (.p2 .d3 .d9)), (.t (.p2 .d3 .d10)), (.t (.p2 .d3 .d12)), (.k (.i (.ofNat 13)))]), none⟩, .ev, 0⟩]) .skip))) (.block 4 (.seq (.dreg [
  ⟨0, ⟨some (.p2 .d3 .d15), (.mv (.t (.p2 .d0 .d0))), none⟩, .pur, 0⟩,
  ⟨1, ⟨some (.p2 .d4 .d0), (.nilc (.t (.p2 .d3 .d15))), none⟩, .pur, 0⟩,
  ⟨2, ⟨some (.p2 .d4 .d1), (.fa (.t (.p2 .d4 .d0)) 2), none⟩, .pur, 0⟩,
  ⟨3, ⟨some (.p2 .d4 .d2), (.ld1 (.t (.p2 .d4 .d1))), none⟩, .rd, 0⟩,
  ⟨4, ⟨some (.p2 .d4 .d3), (.fa (.t (.p2 .d0 .d6)) 4), none⟩, .pur, 0⟩,
  ⟨5, ⟨some (.p2 .d4 .d4), (.ld1 (.t (.p2 .d4 .d3))), none⟩, .rd, 0⟩,
  ⟨6, ⟨some (.p2 .d4 .d5), (.call ⟨35, .d0, .d2, .d3⟩ [(.t (.p2 .d4 .d2)), (.t (.p2 .d4 .d4))]), none⟩, .ev, 0⟩,
  ⟨7, ⟨some (.p2 .d4 .d6), (.not (.t (.p2 .d4 .d5))), none⟩, .pur, 0⟩,
  ⟨8, ⟨some (.p2 .d3 .d14), (.mv (.t (.p2 .d4 .d6))), none⟩, .pur, 0⟩]) (.cond (.t (.p2 .d3 .d14)) (.dreg [
  ⟨0, ⟨some (.p2 .d4 .d7), (.mv (.t (.p2 .d0 .d0))), none⟩, .pur, 0⟩,
  ⟨1, ⟨some (.p2 .d4 .d8), (.nilc (.t (.p2 .d4 .d7))), none⟩, .pur, 0⟩,
  ⟨2, ⟨some (.p2 .d4 .d9), (.fa (.t (.p2 .d4 .d8)) 3), none⟩, .pur, 0⟩,
  ⟨3, ⟨some (.p2 .d4 .d10), (.mv (.t (.p2 .d0 .d2))), none⟩, .pur, 0⟩,
  ⟨4, ⟨some (.p2 .d4 .d11), (.fa (.t (.p2 .d0 .d6)) 3), none⟩, .pur, 0⟩,
  ⟨5, ⟨some (.p2 .d4 .d12), (.ld1 (.t (.p2 .d4 .d11))), none⟩, .rd, 0⟩,
  ⟨6, ⟨some (.p2 .d4 .d13), (.call ⟨16, .d0, .d1, .d0⟩ [(.t (.p2 .d4 .d9)), (.t (.p2 .d4 .d10)), (.t (.p2 .d4 .d12)), (.k (.i (.ofNat 12)))]), none⟩, .ev, 0⟩]) (.seq (.dreg [
  ⟨0, ⟨some (.p2 .d4 .d15), (.mv (.t (.p2 .d0 .d0))), none⟩, .pur, 0⟩,
  ⟨1, ⟨some (.p2 .d5 .d0), (.fa (.t (.p2 .d0 .d6)) 4), none⟩, .pur, 0⟩,
  ⟨2, ⟨some (.p2 .d5 .d1), (.ld1 (.t (.p2 .d5 .d0))), none⟩, .rd, 1⟩,
  ⟨3, ⟨some (.p2 .d5 .d2), (.mv (.t (.p2 .d0 .d0))), none⟩, .pur, 0⟩,
  ⟨4, ⟨some (.p2 .d5 .d3), (.nilc (.t (.p2 .d5 .d2))), none⟩, .pur, 0⟩,
  ⟨5, ⟨some (.p2 .d5 .d4), (.fa (.t (.p2 .d5 .d3)) 2), none⟩, .pur, 0⟩,
  ⟨6, ⟨some (.p2 .d5 .d5), (.ld1 (.t (.p2 .d5 .d4))), none⟩, .rd, 1⟩,
  ⟨7, ⟨some (.p2 .d5 .d6), (.mv (.t (.p2 .d0 .d2))), none⟩, .pur, 0⟩,
  ⟨8, ⟨some (.p2 .d5 .d7), (.ia 1 (.t (.p2 .d5 .d5)) (.t (.p2 .d5 .d6))), none⟩, .pur, 0⟩,
  ⟨9, ⟨some (.p2 .d5 .d8), (.ld1 (.t (.p2 .d5 .d7))), none⟩, .rd, 1⟩,
  ⟨10, ⟨some (.p2 .d5 .d9), .mkmap, none⟩, .ev, 0⟩,
  ⟨11, ⟨some (.p2 .d5 .d10), (.call ⟨36, .d0, .d2, .d4⟩ [(.t (.p2 .d4 .d15)), (.t (.p2 .d5 .d1)), (.t (.p2 .d5 .d8)), (.t (.p2 .d5 .d9))]), none⟩, .ev, 1⟩,
  ⟨12, ⟨some (.p2 .d4 .d14), (.mv (.t (.p2 .d5 .d10))), none⟩, .pur, 0⟩]) (.cond (.t (.p2 .d4 .d14)) (.dreg [
  ⟨0, ⟨some (.p2 .d5 .d11), (.mv (.t (.p2 .d0 .d0))), none⟩, .pur, 0⟩,
  ⟨1, ⟨some (.p2 .d5 .d12), (.nilc (.t (.p2 .d5 .d11))), none⟩, .pur, 0⟩,
  ⟨2, ⟨some (.p2 .d5 .d13), (.fa (.t (.p2 .d5 .d12)) 3), none⟩, .pur, 0⟩,
  ⟨3, ⟨some (.p2 .d5 .d14), (.mv (.t (.p2 .d0 .d2))), none⟩, .pur, 0⟩,
  ⟨4, ⟨some (.p2 .d5 .d15), (.fa (.t (.p2 .d0 .d6)) 3), none⟩, .pur, 0⟩,
  ⟨5, ⟨some (.p2 .d6 .d0), (.ld1 (.t (.p2 .d5 .d15))), none⟩, .rd, 0⟩,
  ⟨6, ⟨some (.p2 .d6 .d1), (.call ⟨16, .d0, .d1, .d0⟩ [(.t (.p2 .d5 .d13)), (.t (.p2 .d5 .d14)), (.t (.p2 .d6 .d0)), (.k (.i (.ofNat 16)))]), none⟩, .ev, 0⟩]) .skip))))))))) (.reg [
  ⟨some (.p2 .d6 .d2), (.add (.t (.p2 .d2 .d6)) (.k (.i (.ofNat 1)))), none⟩,
  ⟨some (.p2 .d2 .d6), (.mv (.t (.p2 .d6 .d2))), none⟩]))))))))))) (.reg [
  ⟨some (.p2 .d6 .d3), (.add (.t (.p2 .d0 .d12)) (.k (.i (.ofNat 1)))), none⟩,
  ⟨some (.p2 .d0 .d12), (.mv (.t (.p2 .d6 .d3))), none⟩]))))))), []⟩
def cf18 : CF := ⟨18, true, (.seq (.reg [
  ⟨some (.p2 .d0 .d2), (.mv (.t (.p2 .d0 .d0))), none⟩,
  ⟨some (.p2 .d0 .d3), (.call ⟨37, .d0, .d2, .d5⟩ [(.t (.p2 .d0 .d2))]), none⟩]) (.reg [
  ⟨some (.p2 .d0 .d4), (.mv (.t (.p2 .d0 .d0))), none⟩,
  ⟨some (.p2 .d0 .d5), (.call ⟨38, .d0, .d2, .d6⟩ [(.t (.p2 .d0 .d4))]), none⟩])), []⟩
def cf19 : CF := ⟨19, true, (.seq (.reg [
  ⟨some (.p2 .d0 .d2), (.mv (.k .nils)), none⟩]) (.seq (.seq (.reg [
  ⟨some (.p2 .d0 .d3), (.mv (.t (.p2 .d0 .d0))), none⟩,
  ⟨some (.p2 .d0 .d4), (.eql .slice (.t (.p2 .d0 .d3)) (.k .nils)), none⟩]) (.cond (.t (.p2 .d0 .d4)) (.seq (.reg [
  ⟨some (.p2 .d0 .d2), (.mv (.k .nils)), none⟩]) .ret) .skip)) (.seq (.reg [
  ⟨some (.p2 .d0 .d5), (.bslice 37 9 0 [(.i (.ofNat 0)), (.i (.ofNat 0)), (.str 0 0), (.bool false), (.i (.ofNat 0)), (.str 0 0), (.i (.ofNat 0)), (.i (.ofNat 0)), (.str 0 0)] []), none⟩,
  ⟨some (.p2 .d0 .d6), (.mv (.t (.p2 .d0 .d0))), none⟩,
  ⟨some (.p2 .d0 .d7), (.append 37 9 96 (.t (.p2 .d0 .d5)) (.t (.p2 .d0 .d6))), none⟩,
  ⟨some (.p2 .d0 .d2), (.mv (.t (.p2 .d0 .d7))), none⟩]) .ret))), [.tmp (.p2 .d0 .d2)]⟩
def cf20 : CF := ⟨20, true, (.seq (.reg [
  ⟨some (.p2 .d0 .d3), (.box 9 1 (.t (.p2 .d0 .d1))), none⟩,
  ⟨some (.p2 .d0 .d4), (.alloc 35 [(.i (.ofNat 0)), (.str 0 0), (.i (.ofNat 0)), (.i (.ofNat 0)), (.str 0 0)]), none⟩,
  ⟨some (.p2 .d0 .d5), (.mv (.k (.bool false))), none⟩]) (.seq (.reg [
  ⟨some (.p2 .d0 .d7), (.mv (.t (.p2 .d0 .d0))), none⟩,
  ⟨some (.p2 .d0 .d8), (.mkf ⟨40, .d0, .d2, .d8⟩ [] [(.t (.p2 .d0 .d3))]), none⟩,
  ⟨some (.p2 .d0 .d9), (.call ⟨39, .d0, .d2, .d7⟩ [(.t (.p2 .d0 .d7)), (.t (.p2 .d0 .d8))]), none⟩,
  ⟨some (.p2 .d0 .d6), (.mv (.t (.p2 .d0 .d9))), none⟩]) (.seq (.seq (.reg [
  ⟨some (.p2 .d0 .d10), (.mv (.t (.p2 .d0 .d6))), none⟩,
  ⟨some (.p2 .d0 .d11), (.lss (.t (.p2 .d0 .d10)) (.k (.i (.ofNat 0)))), none⟩]) (.cond (.t (.p2 .d0 .d11)) (.seq (.reg [
  ⟨some (.p2 .d0 .d12), (.build [(.i (.ofNat 0)), (.str 0 0), (.i (.ofNat 0)), (.i (.ofNat 0)), (.str 0 0)] []), none⟩,
  ⟨none, (.st 5 (.t (.p2 .d0 .d4)) (.t (.p2 .d0 .d12))), none⟩,
  ⟨some (.p2 .d0 .d5), (.mv (.k (.bool false))), none⟩]) .ret) .skip)) (.seq (.reg [
  ⟨some (.p2 .d0 .d13), (.mv (.t (.p2 .d0 .d0))), none⟩,
  ⟨some (.p2 .d0 .d14), (.mv (.t (.p2 .d0 .d6))), none⟩,
  ⟨some (.p2 .d0 .d15), (.ia 5 (.t (.p2 .d0 .d13)) (.t (.p2 .d0 .d14))), none⟩,
  ⟨some (.p2 .d1 .d0), (.ldn 5 (.t (.p2 .d0 .d15))), none⟩,
  ⟨none, (.st 5 (.t (.p2 .d0 .d4)) (.t (.p2 .d1 .d0))), none⟩,
  ⟨some (.p2 .d0 .d5), (.mv (.k (.bool true))), none⟩]) .ret)))), [.cell 5 true (.p2 .d0 .d4), .tmp (.p2 .d0 .d5)]⟩
def cf21 : CF := ⟨21, true, (.seq (.reg [
  ⟨some (.p2 .d0 .d4), (.mv (.k .nils)), none⟩]) (.seq (.seq (.reg [
  ⟨some (.p2 .d0 .d5), (.mv (.t (.p2 .d0 .d0))), none⟩,
  ⟨some (.p2 .d0 .d6), (.eql .ptr (.t (.p2 .d0 .d5)) (.k .nilp)), none⟩]) (.cond (.t (.p2 .d0 .d6)) (.seq (.reg [
  ⟨some (.p2 .d0 .d4), (.mv (.k .nils)), none⟩]) .ret) .skip)) (.seq (.reg [
  ⟨some (.p2 .d0 .d7), (.mv (.t (.p2 .d0 .d0))), none⟩,
  ⟨some (.p2 .d0 .d8), (.nilc (.t (.p2 .d0 .d7))), none⟩,
  ⟨some (.p2 .d0 .d9), (.fa (.t (.p2 .d0 .d8)) 7), none⟩,
  ⟨some (.p2 .d0 .d10), (.ld1 (.t (.p2 .d0 .d9))), none⟩,
  ⟨some (.p2 .d0 .d11), (.mv (.t (.p2 .d0 .d1))), none⟩,
  ⟨some (.p2 .d0 .d12), (.lkp (.cell .str) .nils (.t (.p2 .d0 .d10)) (.t (.p2 .d0 .d11)) false), none⟩,
  ⟨some (.p2 .d0 .d13), (.call ⟨41, .d0, .d2, .d9⟩ [(.t (.p2 .d0 .d12))]), none⟩,
  ⟨some (.p2 .d0 .d4), (.mv (.t (.p2 .d0 .d13))), none⟩]) .ret))), [.tmp (.p2 .d0 .d4)]⟩
def cf22 : CF := ⟨22, true, (.seq (.reg [
  ⟨some (.p2 .d0 .d4), (.mv (.k (.bool false))), none⟩]) (.seq (.reg [
  ⟨some (.p2 .d0 .d5), (.mv (.t (.p2 .d0 .d0))), none⟩,
  ⟨some (.p2 .d0 .d6), (.neq .ptr (.t (.p2 .d0 .d5)) (.k .nilp)), none⟩,
  ⟨some (.p2 .d0 .d7), (.mv (.t (.p2 .d0 .d6))), none⟩,
  ⟨some (.p2 .d0 .d8), (.mv (.t (.p2 .d0 .d1))), some ((.p2 .d0 .d7), true)⟩,
  ⟨some (.p2 .d0 .d9), (.geq (.t (.p2 .d0 .d8)) (.k (.i (.ofNat 0)))), some ((.p2 .d0 .d7), true)⟩,
  ⟨some (.p2 .d0 .d10), (.pick (.t (.p2 .d0 .d7)) (.t (.p2 .d0 .d9)) (.k (.bool false))), none⟩,
  ⟨some (.p2 .d0 .d11), (.mv (.t (.p2 .d0 .d10))), none⟩,
  ⟨some (.p2 .d0 .d12), (.mv (.t (.p2 .d0 .d1))), some ((.p2 .d0 .d11), true)⟩,
  ⟨some (.p2 .d0 .d13), (.mv (.t (.p2 .d0 .d0))), some ((.p2 .d0 .d11), true)⟩,
  ⟨some (.p2 .d0 .d14), (.nilc (.t (.p2 .d0 .d13))), some ((.p2 .d0 .d11), true)⟩,
  ⟨some (.p2 .d0 .d15), (.fa (.t (.p2 .d0 .d14)) 0), some ((.p2 .d0 .d11), true)⟩,
  ⟨some (.p2 .d1 .d0), (.ld1 (.t (.p2 .d0 .d15))), some ((.p2 .d0 .d11), true)⟩,
  ⟨some (.p2 .d1 .d1), (.len 1 (.t (.p2 .d1 .d0))), some ((.p2 .d0 .d11), true)⟩,
  ⟨some (.p2 .d1 .d2), (.lss (.t (.p2 .d0 .d12)) (.t (.p2 .d1 .d1))), some ((.p2 .d0 .d11), true)⟩,
  ⟨some (.p2 .d1 .d3), (.pick (.t (.p2 .d0 .d11)) (.t (.p2 .d1 .d2)) (.k (.bool false))), none⟩,
  ⟨some (.p2 .d0 .d4), (.mv (.t (.p2 .d1 .d3))), none⟩]) .ret)), [.tmp (.p2 .d0 .d4)]⟩
def cf23 : CF := ⟨23, true, (.seq (.reg [
  ⟨some (.p2 .d0 .d2), (.mv (.k .nils)), none⟩]) (.seq (.reg [
  ⟨some (.p2 .d0 .d3), (.mv (.t (.p2 .d0 .d0))), none⟩,
  ⟨some (.p2 .d0 .d4), (.add (.k (.str 10 49292034550601894551920)) (.t (.p2 .d0 .d3))), none⟩,
  ⟨some (.p2 .d0 .d5), (.build [(.str 0 0), (.str 0 0), (.i (.ofNat 0))] [(0, 1, (.k (.str 14 2259522320544581588341771545110886))), (1, 1, (.t (.p2 .d0 .d4)))]), none⟩,
  ⟨some (.p2 .d0 .d6), (.bslice 24 3 1 [(.str 0 0), (.str 0 0), (.i (.ofNat 0))] [(0, (.t (.p2 .d0 .d5)))]), none⟩,
  ⟨some (.p2 .d0 .d2), (.mv (.t (.p2 .d0 .d6))), none⟩]) .ret)), [.tmp (.p2 .d0 .d2)]⟩
def cf24 : CF := ⟨24, true, (.seq (.reg [
  ⟨some (.p2 .d0 .d4), (.mv (.k (.str 0 0))), none⟩,
  ⟨some (.p2 .d0 .d5), (.mv (.k (.bool false))), none⟩]) (.seq (.reg [
  ⟨some (.p2 .d0 .d6), (.mv (.t (.p2 .d0 .d0))), none⟩,
  ⟨some (.p2 .d0 .d7), (.mv (.t (.p2 .d0 .d1))), none⟩,
  ⟨some (.p2 .d0 .d8), (.call ⟨42, .d0, .d2, .d10⟩ [(.t (.p2 .d0 .d6)), (.t (.p2 .d0 .d7))]), none⟩,
  ⟨some (.p2 .d0 .d9), (.ext (.t (.p2 .d0 .d8)) 0), none⟩,
  ⟨some (.p2 .d0 .d10), (.ext (.t (.p2 .d0 .d8)) 1), none⟩,
  ⟨some (.p2 .d0 .d4), (.mv (.t (.p2 .d0 .d9))), none⟩,
  ⟨some (.p2 .d0 .d5), (.mv (.t (.p2 .d0 .d10))), none⟩]) .ret)), [.tmp (.p2 .d0 .d4), .tmp (.p2 .d0 .d5)]⟩
def cf25 : CF := ⟨25, true, (.seq (.reg [
  ⟨some (.p2 .d0 .d4), (.mv (.k (.str 0 0))), none⟩,
  ⟨some (.p2 .d0 .d5), (.mv (.k (.str 0 0))), none⟩,
  ⟨some (.p2 .d0 .d6), (.mv (.k (.bool false))), none⟩]) (.seq (.reg [
  ⟨some (.p2 .d0 .d7), (.mv (.t (.p2 .d0 .d0))), none⟩,
  ⟨some (.p2 .d0 .d8), (.mv (.t (.p2 .d0 .d1))), none⟩,
  ⟨some (.p2 .d0 .d9), (.call ⟨43, .d0, .d2, .d11⟩ [(.t (.p2 .d0 .d7)), (.t (.p2 .d0 .d8))]), none⟩,
  ⟨some (.p2 .d0 .d10), (.ext (.t (.p2 .d0 .d9)) 0), none⟩,
  ⟨some (.p2 .d0 .d11), (.ext (.t (.p2 .d0 .d9)) 1), none⟩,
  ⟨some (.p2 .d0 .d12), (.ext (.t (.p2 .d0 .d9)) 2), none⟩,
  ⟨some (.p2 .d0 .d4), (.mv (.t (.p2 .d0 .d10))), none⟩,
  ⟨some (.p2 .d0 .d5), (.mv (.t (.p2 .d0 .d11))), none⟩,
  ⟨some (.p2 .d0 .d6), (.mv (.t (.p2 .d0 .d12))), none⟩]) .ret)), [.tmp (.p2 .d0 .d4), .tmp (.p2 .d0 .d5), .tmp (.p2 .d0 .d6)]⟩
def cf26 : CF := ⟨26, true, (.seq (.reg [
  ⟨some (.p2 .d0 .d4), (.mv (.k (.str 0 0))), none⟩,
  ⟨some (.p2 .d0 .d5), (.mv (.k (.bool false))), none⟩]) (.seq (.reg [
  ⟨some (.p2 .d0 .d6), (.mv (.t (.p2 .d0 .d0))), none⟩,
  ⟨some (.p2 .d0 .d7), (.mv (.t (.p2 .d0 .d1))), none⟩,
  ⟨some (.p2 .d0 .d8), (.call ⟨44, .d0, .d2, .d12⟩ [(.t (.p2 .d0 .d6)), (.t (.p2 .d0 .d7))]), none⟩,
  ⟨some (.p2 .d0 .d9), (.ext (.t (.p2 .d0 .d8)) 0), none⟩,
  ⟨some (.p2 .d0 .d10), (.ext (.t (.p2 .d0 .d8)) 1), none⟩,
  ⟨some (.p2 .d0 .d4), (.mv (.t (.p2 .d0 .d9))), none⟩,
  ⟨some (.p2 .d0 .d5), (.mv (.t (.p2 .d0 .d10))), none⟩]) .ret)), [.tmp (.p2 .d0 .d4), .tmp (.p2 .d0 .d5)]⟩
def cf27 : CF := ⟨27, true, (.seq (.reg [
  ⟨some (.p2 .d0 .d2), (.mv (.k (.bool false))), none⟩]) (.seq (.seq (.reg [
  ⟨some (.p2 .d0 .d4), (.mv (.t (.p2 .d0 .d0))), none⟩,
  ⟨some (.p2 .d0 .d5), (.eql (.cell .str) (.t (.p2 .d0 .d4)) (.k (.str 0 0))), none⟩,
  ⟨some (.p2 .d0 .d6), (.mv (.t (.p2 .d0 .d5))), none⟩,
  ⟨some (.p2 .d0 .d7), (.mv (.t (.p2 .d0 .d0))), some ((.p2 .d0 .d6), false)⟩,
  ⟨some (.p2 .d0 .d8), (.eql (.cell .str) (.t (.p2 .d0 .d7)) (.k (.str 1 95))), some ((.p2 .d0 .d6), false)⟩,
  ⟨some (.p2 .d0 .d9), (.pick (.t (.p2 .d0 .d6)) (.k (.bool true)) (.t (.p2 .d0 .d8))), none⟩,
  ⟨some (.p2 .d0 .d10), (.mv (.t (.p2 .d0 .d9))), none⟩,
  ⟨some (.p2 .d0 .d11), (.mv (.t (.p2 .d0 .d0))), some ((.p2 .d0 .d10), false)⟩,
  ⟨some (.p2 .d0 .d12), (.len 0 (.t (.p2 .d0 .d11))), some ((.p2 .d0 .d10), false)⟩,
  ⟨some (.p2 .d0 .d13), (.gtr (.t (.p2 .d0 .d12)) (.k (.i (.ofNat 40)))), some ((.p2 .d0 .d10), false)⟩,
  ⟨some (.p2 .d0 .d14), (.pick (.t (.p2 .d0 .d10)) (.k (.bool true)) (.t (.p2 .d0 .d13))), none⟩]) (.cond (.t (.p2 .d0 .d14)) (.seq (.reg [
  ⟨some (.p2 .d0 .d2), (.mv (.k (.bool false))), none⟩]) .ret) .skip)) (.seq (.seq (.reg [
  ⟨some (.p2 .d0 .d15), (.mv (.t (.p2 .d0 .d0))), none⟩,
  ⟨some (.p2 .d1 .d0), (.len 0 (.t (.p2 .d0 .d15))), none⟩,
  ⟨some (.p2 .d1 .d1), (.mv (.k (.i (.ofNat 0)))), none⟩]) (.block 0 (.loop (.seq (.reg [
  ⟨some (.p2 .d1 .d2), (.lss (.t (.p2 .d1 .d1)) (.t (.p2 .d1 .d0))), none⟩]) (.seq (.cond (.t (.p2 .d1 .d2)) .skip (.exit 0)) (.seq (.block 1 (.seq (.reg [
  ⟨some (.p2 .d1 .d3), (.mv (.t (.p2 .d1 .d1))), none⟩,
  ⟨some (.p2 .d0 .d3), (.mv (.t (.p2 .d1 .d3))), none⟩]) (.seq (.reg [
  ⟨some (.p2 .d1 .d4), (.mv (.t (.p2 .d0 .d0))), none⟩,
  ⟨some (.p2 .d1 .d5), (.mv (.t (.p2 .d0 .d3))), none⟩,
  ⟨some (.p2 .d1 .d6), (.ixs (.t (.p2 .d1 .d4)) (.t (.p2 .d1 .d5))), none⟩,
  ⟨some (.p2 .d1 .d7), (.call ⟨45, .d0, .d2, .d13⟩ [(.t (.p2 .d1 .d6))]), none⟩,
  ⟨some (.p2 .d1 .d8), (.not (.t (.p2 .d1 .d7))), none⟩,
  ⟨some (.p2 .d1 .d9), (.mv (.t (.p2 .d1 .d8))), none⟩,
  ⟨some (.p2 .d1 .d10), (.mv (.t (.p2 .d0 .d3))), some ((.p2 .d1 .d9), true)⟩,
  ⟨some (.p2 .d1 .d11), (.eql (.cell (.int .i64)) (.t (.p2 .d1 .d10)) (.k (.i (.ofNat 0)))), some ((.p2 .d1 .d9), true)⟩,
  ⟨some (.p2 .d1 .d12), (.mv (.t (.p2 .d1 .d11))), some ((.p2 .d1 .d9), true)⟩,
  ⟨some (.p2 .d1 .d13), (.mv (.t (.p2 .d0 .d0))), some ((.p2 .d1 .d12), false)⟩,
  ⟨some (.p2 .d1 .d14), (.mv (.t (.p2 .d0 .d3))), some ((.p2 .d1 .d12), false)⟩,
  ⟨some (.p2 .d1 .d15), (.ixs (.t (.p2 .d1 .d13)) (.t (.p2 .d1 .d14))), some ((.p2 .d1 .d12), false)⟩,
  ⟨some (.p2 .d2 .d0), (.lss (.t (.p2 .d1 .d15)) (.k (.u8 48))), some ((.p2 .d1 .d12), false)⟩,
  ⟨some (.p2 .d2 .d1), (.pick (.t (.p2 .d1 .d12)) (.k (.bool true)) (.t (.p2 .d2 .d0))), some ((.p2 .d1 .d9), true)⟩,
  ⟨some (.p2 .d2 .d2), (.mv (.t (.p2 .d2 .d1))), some ((.p2 .d1 .d9), true)⟩,
  ⟨some (.p2 .d2 .d3), (.mv (.t (.p2 .d0 .d0))), some ((.p2 .d2 .d2), false)⟩,
  ⟨some (.p2 .d2 .d4), (.mv (.t (.p2 .d0 .d3))), some ((.p2 .d2 .d2), false)⟩,
  ⟨some (.p2 .d2 .d5), (.ixs (.t (.p2 .d2 .d3)) (.t (.p2 .d2 .d4))), some ((.p2 .d2 .d2), false)⟩,
  ⟨some (.p2 .d2 .d6), (.gtr (.t (.p2 .d2 .d5)) (.k (.u8 57))), some ((.p2 .d2 .d2), false)⟩,
  ⟨some (.p2 .d2 .d7), (.pick (.t (.p2 .d2 .d2)) (.k (.bool true)) (.t (.p2 .d2 .d6))), some ((.p2 .d1 .d9), true)⟩,
  ⟨some (.p2 .d2 .d8), (.pick (.t (.p2 .d1 .d9)) (.t (.p2 .d2 .d7)) (.k (.bool false))), none⟩]) (.cond (.t (.p2 .d2 .d8)) (.seq (.reg [
  ⟨some (.p2 .d0 .d2), (.mv (.k (.bool false))), none⟩]) .ret) .skip)))) (.reg [
  ⟨some (.p2 .d2 .d9), (.add (.t (.p2 .d1 .d1)) (.k (.i (.ofNat 1)))), none⟩,
  ⟨some (.p2 .d1 .d1), (.mv (.t (.p2 .d2 .d9))), none⟩]))))))) (.seq (.reg [
  ⟨some (.p2 .d0 .d2), (.mv (.k (.bool true))), none⟩]) .ret)))), [.tmp (.p2 .d0 .d2)]⟩
def cf28 : CF := ⟨28, true, (.seq (.reg [
  ⟨some (.p2 .d0 .d2), (.mv (.k (.bool false))), none⟩]) (.seq (.reg [
  ⟨some (.p2 .d0 .d3), (.call ⟨46, .d0, .d2, .d14⟩ [(.k (.str 120 4354202825406757800331846196159180536089666751395040826788209806809669751207525639169844572067787981925146356781969649690634480027757858630457764300666582144565546158052496913337934365839292441259195558353020762567580199780031574836563569491496608584167036132724229084513840819351451561826))]), none⟩,
  ⟨some (.p2 .d0 .d4), (.mv (.t (.p2 .d0 .d0))), none⟩,
  ⟨some (.p2 .d0 .d5), (.call ⟨35, .d0, .d2, .d3⟩ [(.t (.p2 .d0 .d3)), (.t (.p2 .d0 .d4))]), none⟩,
  ⟨some (.p2 .d0 .d2), (.mv (.t (.p2 .d0 .d5))), none⟩]) .ret)), [.tmp (.p2 .d0 .d2)]⟩
def cf29 : CF := ⟨29, true, (.seq (.reg [
  ⟨some (.p2 .d0 .d4), (.mv (.k (.i (.ofNat 0)))), none⟩]) (.seq (.reg [
  ⟨some (.p2 .d0 .d5), (.mv (.t (.p2 .d0 .d0))), none⟩,
  ⟨some (.p2 .d0 .d6), (.mv (.t (.p2 .d0 .d1))), none⟩,
  ⟨some (.p2 .d0 .d7), (.extc .cmpStr [(.t (.p2 .d0 .d5)), (.t (.p2 .d0 .d6))]), none⟩,
  ⟨some (.p2 .d0 .d4), (.mv (.t (.p2 .d0 .d7))), none⟩]) .ret)), [.tmp (.p2 .d0 .d4)]⟩
def cf30 : CF := ⟨30, true, (.seq (.reg [
  ⟨some (.p2 .d0 .d2), (.alloc 73 [.nils]), none⟩,
  ⟨some (.p2 .d0 .d3), (.mv (.k (.i (.ofNat 0)))), none⟩,
  ⟨some (.p2 .d0 .d4), (.mv (.k (.i (.ofNat 0)))), none⟩]) (.seq (.seq (.reg [
  ⟨some (.p2 .d0 .d15), (.mv (.t (.p2 .d0 .d0))), none⟩,
  ⟨some (.p2 .d1 .d0), (.len 0 (.t (.p2 .d0 .d15))), none⟩,
  ⟨some (.p2 .d1 .d1), (.gtr (.t (.p2 .d1 .d0)) (.k (.i (.ofNat 65536)))), none⟩]) (.cond (.t (.p2 .d1 .d1)) (.seq (.reg [
  ⟨none, (.st 1 (.t (.p2 .d0 .d2)) (.k .nils)), none⟩,
  ⟨some (.p2 .d0 .d3), (.mv (.k (.i (.ofNat 65536)))), none⟩,
  ⟨some (.p2 .d0 .d4), (.mv (.k (.i (.ofNat 3)))), none⟩]) .ret) .skip)) (.seq (.seq (.reg [
  ⟨some (.p2 .d1 .d2), (.mv (.t (.p2 .d0 .d0))), none⟩,
  ⟨some (.p2 .d1 .d3), (.call ⟨48, .d0, .d3, .d0⟩ [(.t (.p2 .d1 .d2))]), none⟩,
  ⟨some (.p2 .d0 .d5), (.mv (.t (.p2 .d1 .d3))), none⟩]) (.seq (.reg [
  ⟨some (.p2 .d1 .d4), (.mv (.t (.p2 .d0 .d5))), none⟩,
  ⟨some (.p2 .d1 .d5), (.geq (.t (.p2 .d1 .d4)) (.k (.i (.ofNat 0)))), none⟩]) (.cond (.t (.p2 .d1 .d5)) (.seq (.reg [
  ⟨some (.p2 .d1 .d6), (.mv (.t (.p2 .d0 .d5))), none⟩,
  ⟨none, (.st 1 (.t (.p2 .d0 .d2)) (.k .nils)), none⟩,
  ⟨some (.p2 .d0 .d3), (.mv (.t (.p2 .d1 .d6))), none⟩,
  ⟨some (.p2 .d0 .d4), (.mv (.k (.i (.ofNat 8)))), none⟩]) .ret) .skip))) (.seq (.reg [
  ⟨some (.p2 .d0 .d6), (.alloc 80 [(.i (.ofNat 0)), (.str 0 0), (.i (.ofNat 0)), (.i (.ofNat 0))]), none⟩]) (.seq (.reg [
  ⟨some (.p2 .d1 .d7), (.mkf ⟨49, .d0, .d3, .d1⟩ [] [(.t (.p2 .d0 .d6)), (.t (.p2 .d0 .d2))]), none⟩,
  ⟨some (.p2 .d0 .d7), (.mv (.t (.p2 .d1 .d7))), none⟩]) (.seq (.seq (.reg [
  ⟨some (.p2 .d0 .d8), (.mv (.k (.i (.ofNat 0)))), none⟩]) (.block 0 (.loop (.seq (.seq (.reg [
  ⟨some (.p2 .d1 .d8), (.mv (.t (.p2 .d0 .d8))), none⟩,
  ⟨some (.p2 .d1 .d9), (.mv (.t (.p2 .d0 .d0))), none⟩,
  ⟨some (.p2 .d1 .d10), (.len 0 (.t (.p2 .d1 .d9))), none⟩,
  ⟨some (.p2 .d1 .d11), (.lss (.t (.p2 .d1 .d8)) (.t (.p2 .d1 .d10))), none⟩]) (.cond (.t (.p2 .d1 .d11)) .skip (.exit 0))) (.block 1 (.seq (.reg [
  ⟨some (.p2 .d1 .d12), (.mv (.t (.p2 .d0 .d0))), none⟩,
  ⟨some (.p2 .d1 .d13), (.mv (.t (.p2 .d0 .d8))), none⟩,
  ⟨some (.p2 .d1 .d14), (.slStr (.t (.p2 .d1 .d12)) (some (.t (.p2 .d1 .d13))) none), none⟩,
  ⟨some (.p2 .d0 .d9), (.mv (.t (.p2 .d1 .d14))), none⟩]) (.block 2 (.seq (.reg [
  ⟨some (.p2 .d3 .d7), (.mv (.t (.p2 .d0 .d9))), none⟩,
  ⟨some (.p2 .d3 .d8), (.ixs (.t (.p2 .d3 .d7)) (.k (.i (.ofNat 0)))), none⟩,
  ⟨some (.p2 .d3 .d9), (.call ⟨51, .d0, .d3, .d3⟩ [(.k (.str 3 854304)), (.t (.p2 .d3 .d8))]), none⟩,
  ⟨some (.p2 .d3 .d10), (.geq (.t (.p2 .d3 .d9)) (.k (.i (.ofNat 0)))), none⟩,
  ⟨some (.p2 .d3 .d6), (.mv (.t (.p2 .d3 .d10))), none⟩]) (.cond (.t (.p2 .d3 .d6)) (.reg [
  ⟨some (.p2 .d3 .d11), (.mv (.t (.p2 .d0 .d8))), none⟩,
  ⟨some (.p2 .d3 .d12), (.add (.t (.p2 .d3 .d11)) (.k (.i (.ofNat 1)))), none⟩,
  ⟨some (.p2 .d0 .d8), (.mv (.t (.p2 .d3 .d12))), none⟩]) (.seq (.reg [
  ⟨some (.p2 .d3 .d14), (.mv (.t (.p2 .d0 .d9))), none⟩,
  ⟨some (.p2 .d3 .d15), (.ixs (.t (.p2 .d3 .d14)) (.k (.i (.ofNat 0)))), none⟩,
  ⟨some (.p2 .d4 .d0), (.eql (.cell (.int .u8)) (.t (.p2 .d3 .d15)) (.k (.u8 10))), none⟩,
  ⟨some (.p2 .d3 .d13), (.mv (.t (.p2 .d4 .d0))), none⟩]) (.cond (.t (.p2 .d3 .d13)) (.seq (.reg [
  ⟨some (.p2 .d4 .d1), (.mv (.t (.p2 .d0 .d7))), none⟩,
  ⟨some (.p2 .d4 .d2), (.callv (.t (.p2 .d4 .d1)) []), none⟩]) (.reg [
  ⟨some (.p2 .d4 .d3), (.mv (.t (.p2 .d0 .d8))), none⟩,
  ⟨some (.p2 .d4 .d4), (.add (.t (.p2 .d4 .d3)) (.k (.i (.ofNat 1)))), none⟩,
  ⟨some (.p2 .d0 .d8), (.mv (.t (.p2 .d4 .d4))), none⟩])) (.seq (.reg [
  ⟨some (.p2 .d4 .d6), (.mv (.t (.p2 .d0 .d9))), none⟩,
  ⟨some (.p2 .d4 .d7), (.call ⟨52, .d0, .d3, .d4⟩ [(.t (.p2 .d4 .d6)), (.k (.str 2 12079))]), none⟩,
  ⟨some (.p2 .d4 .d5), (.mv (.t (.p2 .d4 .d7))), none⟩]) (.cond (.t (.p2 .d4 .d5)) (.seq (.reg [
  ⟨some (.p2 .d4 .d9), (.mv (.t (.p2 .d0 .d9))), none⟩,
  ⟨some (.p2 .d4 .d10), (.call ⟨25, .d0, .d1, .d9⟩ [(.t (.p2 .d4 .d9)), (.k (.str 1 10))]), none⟩,
  ⟨some (.p2 .d4 .d8), (.mv (.t (.p2 .d4 .d10))), none⟩,
  ⟨some (.p2 .d4 .d11), (.ext (.t (.p2 .d4 .d8)) 0), none⟩,
  ⟨some (.p2 .d4 .d12), (.ext (.t (.p2 .d4 .d8)) 1), none⟩,
  ⟨some (.p2 .d4 .d13), (.ext (.t (.p2 .d4 .d8)) 2), none⟩,
  ⟨some (.p2 .d0 .d10), (.mv (.t (.p2 .d4 .d11))), none⟩,
  ⟨some (.p2 .d0 .d11), (.mv (.t (.p2 .d4 .d12))), none⟩,
  ⟨some (.p2 .d0 .d12), (.mv (.t (.p2 .d4 .d13))), none⟩]) (.reg [
  ⟨some (.p2 .d4 .d14), (.mv (.t (.p2 .d0 .d8))), none⟩,
  ⟨some (.p2 .d4 .d15), (.mv (.t (.p2 .d0 .d10))), none⟩,
  ⟨some (.p2 .d5 .d0), (.len 0 (.t (.p2 .d4 .d15))), none⟩,
  ⟨some (.p2 .d5 .d1), (.add (.t (.p2 .d4 .d14)) (.t (.p2 .d5 .d0))), none⟩,
  ⟨some (.p2 .d0 .d8), (.mv (.t (.p2 .d5 .d1))), none⟩])) (.seq (.reg [
  ⟨some (.p2 .d2 .d0), (.mv (.t (.p2 .d0 .d9))), none⟩,
  ⟨some (.p2 .d2 .d1), (.call ⟨53, .d0, .d3, .d5⟩ [(.t (.p2 .d2 .d0))]), none⟩,
  ⟨some (.p2 .d1 .d15), (.mv (.t (.p2 .d2 .d1))), none⟩,
  ⟨some (.p2 .d2 .d2), (.ext (.t (.p2 .d1 .d15)) 0), none⟩,
  ⟨some (.p2 .d2 .d3), (.ext (.t (.p2 .d1 .d15)) 1), none⟩,
  ⟨some (.p2 .d0 .d13), (.alloc 80 [(.i (.ofNat 0)), (.str 0 0), (.i (.ofNat 0)), (.i (.ofNat 0))]), none⟩,
  ⟨none, (.st 4 (.t (.p2 .d0 .d13)) (.t (.p2 .d2 .d2))), none⟩,
  ⟨some (.p2 .d0 .d14), (.mv (.t (.p2 .d2 .d3))), none⟩]) (.seq (.seq (.reg [
  ⟨some (.p2 .d2 .d4), (.mv (.t (.p2 .d0 .d14))), none⟩,
  ⟨some (.p2 .d2 .d5), (.neq (.cell (.int .i64)) (.t (.p2 .d2 .d4)) (.k (.i (.ofNat 0)))), none⟩]) (.cond (.t (.p2 .d2 .d5)) (.seq (.reg [
  ⟨some (.p2 .d2 .d6), (.mv (.t (.p2 .d0 .d8))), none⟩,
  ⟨some (.p2 .d2 .d7), (.mv (.t (.p2 .d0 .d14))), none⟩,
  ⟨none, (.st 1 (.t (.p2 .d0 .d2)) (.k .nils)), none⟩,
  ⟨some (.p2 .d0 .d3), (.mv (.t (.p2 .d2 .d6))), none⟩,
  ⟨some (.p2 .d0 .d4), (.mv (.t (.p2 .d2 .d7))), none⟩]) .ret) .skip)) (.seq (.reg [
  ⟨some (.p2 .d2 .d8), (.mv (.t (.p2 .d0 .d8))), none⟩,
  ⟨some (.p2 .d2 .d9), (.mv (.t (.p2 .d0 .d8))), none⟩,
  ⟨some (.p2 .d2 .d10), (.fa (.t (.p2 .d0 .d13)) 3), none⟩,
  ⟨some (.p2 .d2 .d11), (.ld1 (.t (.p2 .d2 .d10))), none⟩,
  ⟨some (.p2 .d2 .d12), (.add (.t (.p2 .d2 .d9)) (.t (.p2 .d2 .d11))), none⟩,
  ⟨some (.p2 .d2 .d13), (.fa (.t (.p2 .d0 .d13)) 2), none⟩,
  ⟨none, (.st 1 (.t (.p2 .d2 .d13)) (.t (.p2 .d2 .d8))), none⟩,
  ⟨some (.p2 .d2 .d14), (.fa (.t (.p2 .d0 .d13)) 3), none⟩,
  ⟨none, (.st 1 (.t (.p2 .d2 .d14)) (.t (.p2 .d2 .d12))), none⟩]) (.dreg [
  ⟨0, ⟨some (.p2 .d2 .d15), (.ld1 (.t (.p2 .d0 .d2))), none⟩, .rd, 1⟩,
  ⟨1, ⟨some (.p2 .d3 .d0), (.ldn 4 (.t (.p2 .d0 .d13))), none⟩, .rd, 0⟩,
  ⟨4, ⟨some (.p2 .d3 .d3), (.ldn 4 (.t (.p2 .d0 .d13))), none⟩, .rd, 3⟩,
  ⟨5, ⟨some (.p2 .d3 .d4), (.fa (.t (.p2 .d0 .d13)) 3), none⟩, .pur, 0⟩,
  ⟨6, ⟨some (.p2 .d3 .d5), (.ld1 (.t (.p2 .d3 .d4))), none⟩, .rd, 11⟩,
  ⟨2, ⟨some (.p2 .d3 .d1), (.bslice 80 4 1 [(.i (.ofNat 0)), (.str 0 0), (.i (.ofNat 0)), (.i (.ofNat 0))] [(0, (.t (.p2 .d3 .d0)))]), none⟩, .ev, 0⟩,
  ⟨3, ⟨some (.p2 .d3 .d2), (.append 80 4 40 (.t (.p2 .d2 .d15)) (.t (.p2 .d3 .d1))), none⟩, .ev, 1⟩,
  ⟨7, ⟨none, (.st 1 (.t (.p2 .d0 .d2)) (.t (.p2 .d3 .d2))), none⟩, .ev, 2⟩,
  ⟨8, ⟨none, (.st 4 (.t (.p2 .d0 .d6)) (.t (.p2 .d3 .d3))), none⟩, .ev, 3⟩,
  ⟨9, ⟨some (.p2 .d0 .d8), (.mv (.t (.p2 .d3 .d5))), none⟩, .pur, 0⟩]))))))))))))))))) (.seq (.reg [
  ⟨some (.p2 .d5 .d2), (.mv (.t (.p2 .d0 .d7))), none⟩,
  ⟨some (.p2 .d5 .d3), (.callv (.t (.p2 .d5 .d2)) []), none⟩]) (.seq (.reg [
  ⟨some (.p2 .d5 .d4), (.ld1 (.t (.p2 .d0 .d2))), none⟩,
  ⟨none, (.st 1 (.t (.p2 .d0 .d2)) (.t (.p2 .d5 .d4))), none⟩,
  ⟨some (.p2 .d0 .d3), (.mv (.k (.i (.ofNat 0)))), none⟩,
  ⟨some (.p2 .d0 .d4), (.mv (.k (.i (.ofNat 0)))), none⟩]) .ret)))))))), [.cell 1 false (.p2 .d0 .d2), .tmp (.p2 .d0 .d3), .tmp (.p2 .d0 .d4)]⟩
def cf31 : CF := ⟨31, true, (.seq (.reg [
  ⟨some (.p2 .d0 .d6), .recover, none⟩]) (.block 0 (.seq (.reg [
  ⟨some (.p2 .d0 .d8), (.eql .iface (.t (.p2 .d0 .d6)) (.k .nili)), none⟩]) (.cond (.t (.p2 .d0 .d8)) (.reg [
  ⟨some (.p2 .d0 .d3), (.mv (.t (.p2 .d0 .d6))), none⟩]) (.seq (.reg [
  ⟨some (.p2 .d0 .d9), (.tas 77 (.agg [(.i (.ofNat 0)), (.i (.ofNat 0))]) (.t (.p2 .d0 .d6)) true), none⟩,
  ⟨some (.p2 .d0 .d10), (.ext (.t (.p2 .d0 .d9)) 1), none⟩,
  ⟨some (.p2 .d0 .d11), (.ext (.t (.p2 .d0 .d9)) 0), none⟩]) (.cond (.t (.p2 .d0 .d10)) (.seq (.reg [
  ⟨some (.p2 .d0 .d4), (.alloc 77 [(.i (.ofNat 0)), (.i (.ofNat 0))]), none⟩,
  ⟨none, (.st 2 (.t (.p2 .d0 .d4)) (.t (.p2 .d0 .d11))), none⟩]) (.dreg [
  ⟨0, ⟨some (.p2 .d0 .d12), (.build [(.i (.ofNat 0)), (.i (.ofNat 0)), (.i (.ofNat 0)), (.i (.ofNat 0)), (.str 0 0), .nils] []), none⟩, .pur, 0⟩,
  ⟨1, ⟨some (.p2 .d0 .d13), (.fa (.t (.p2 .d0 .d4)) 0), none⟩, .pur, 0⟩,
  ⟨2, ⟨some (.p2 .d0 .d14), (.ld1 (.t (.p2 .d0 .d13))), none⟩, .rd, 1⟩,
  ⟨3, ⟨some (.p2 .d0 .d15), (.fa (.t (.p2 .d0 .d4)) 1), none⟩, .pur, 0⟩,
  ⟨4, ⟨some (.p2 .d1 .d0), (.ld1 (.t (.p2 .d0 .d15))), none⟩, .rd, 2⟩,
  ⟨5, ⟨none, (.st 6 (.t (.p2 .d0 .d0)) (.t (.p2 .d0 .d12))), none⟩, .ev, 0⟩,
  ⟨6, ⟨none, (.st 1 (.t (.p2 .d0 .d1)) (.t (.p2 .d0 .d14))), none⟩, .ev, 1⟩,
  ⟨7, ⟨none, (.st 1 (.t (.p2 .d0 .d2)) (.t (.p2 .d1 .d0))), none⟩, .ev, 2⟩])) (.seq (.reg [
  ⟨some (.p2 .d0 .d5), (.mv (.t (.p2 .d0 .d6))), none⟩]) (.reg [
  ⟨some (.p2 .d0 .d7), (.mv (.t (.p2 .d0 .d5))), none⟩,
  ⟨none, (.panic (.t (.p2 .d0 .d7))), none⟩])))))))), []⟩
def cf32 : CF := ⟨32, true, (.seq (.reg [
  ⟨some (.p2 .d0 .d4), (.alloc 43 [(.i (.ofNat 0)), (.i (.ofNat 0)), (.i (.ofNat 0)), (.i (.ofNat 0)), (.str 0 0), .nils]), none⟩]) (.seq (.reg [
  ⟨some (.p2 .d0 .d7), (.mv (.t (.p2 .d0 .d0))), none⟩,
  ⟨some (.p2 .d0 .d8), (.call ⟨54, .d0, .d3, .d6⟩ [(.t (.p2 .d0 .d7)), (.k (.str 7 28542640758940016))]), none⟩]) (.seq (.reg [
  ⟨some (.p2 .d0 .d9), (.mv (.t (.p2 .d0 .d0))), none⟩,
  ⟨some (.p2 .d0 .d10), (.call ⟨55, .d0, .d3, .d7⟩ [(.t (.p2 .d0 .d9)), (.k (.i (.ofNat 1)))]), none⟩,
  ⟨some (.p2 .d0 .d5), (.alloc 80 [(.i (.ofNat 0)), (.str 0 0), (.i (.ofNat 0)), (.i (.ofNat 0))]), none⟩,
  ⟨none, (.st 4 (.t (.p2 .d0 .d5)) (.t (.p2 .d0 .d10))), none⟩]) (.seq (.reg [
  ⟨some (.p2 .d0 .d11), (.mv (.t (.p2 .d0 .d0))), none⟩,
  ⟨some (.p2 .d0 .d12), (.call ⟨56, .d0, .d3, .d8⟩ [(.t (.p2 .d0 .d11))]), none⟩]) (.seq (.reg [
  ⟨some (.p2 .d0 .d6), (.mv (.k .nils)), none⟩]) (.seq (.block 0 (.loop (.seq (.seq (.reg [
  ⟨some (.p2 .d0 .d13), (.mv (.t (.p2 .d0 .d0))), none⟩,
  ⟨some (.p2 .d0 .d14), (.bslice 9 1 1 [(.str 0 0)] [(0, (.k (.str 6 128034844732777)))]), none⟩,
  ⟨some (.p2 .d0 .d15), (.call ⟨57, .d0, .d3, .d9⟩ [(.t (.p2 .d0 .d13)), (.t (.p2 .d0 .d14))]), none⟩]) (.cond (.t (.p2 .d0 .d15)) .skip (.exit 0))) (.block 1 (.seq (.reg [
  ⟨some (.p2 .d1 .d0), (.mv (.t (.p2 .d0 .d6))), none⟩,
  ⟨some (.p2 .d1 .d1), (.mv (.t (.p2 .d0 .d0))), none⟩,
  ⟨some (.p2 .d1 .d2), (.call ⟨58, .d0, .d3, .d10⟩ [(.t (.p2 .d1 .d1))]), none⟩,
  ⟨some (.p2 .d1 .d3), (.bslice 43 6 1 [(.i (.ofNat 0)), (.i (.ofNat 0)), (.i (.ofNat 0)), (.i (.ofNat 0)), (.str 0 0), .nils] [(0, (.t (.p2 .d1 .d2)))]), none⟩,
  ⟨some (.p2 .d1 .d4), (.append 43 6 72 (.t (.p2 .d1 .d0)) (.t (.p2 .d1 .d3))), none⟩,
  ⟨some (.p2 .d0 .d6), (.mv (.t (.p2 .d1 .d4))), none⟩]) (.reg [
  ⟨some (.p2 .d1 .d5), (.mv (.t (.p2 .d0 .d0))), none⟩,
  ⟨some (.p2 .d1 .d6), (.call ⟨56, .d0, .d3, .d8⟩ [(.t (.p2 .d1 .d5))]), none⟩])))))) (.seq (.block 2 (.loop (.seq (.seq (.dreg [
  ⟨0, ⟨some (.p2 .d1 .d7), (.mv (.t (.p2 .d0 .d0))), none⟩, .pur, 0⟩,
  ⟨1, ⟨some (.p2 .d1 .d8), (.nilc (.t (.p2 .d1 .d7))), none⟩, .pur, 0⟩,
  ⟨2, ⟨some (.p2 .d1 .d9), (.fa (.t (.p2 .d1 .d8)) 1), none⟩, .pur, 0⟩,
  ⟨3, ⟨some (.p2 .d1 .d10), (.ld1 (.t (.p2 .d1 .d9))), none⟩, .rd, 12⟩,
  ⟨4, ⟨some (.p2 .d1 .d11), (.add (.t (.p2 .d1 .d10)) (.k (.i (.ofNat 1)))), none⟩, .pur, 0⟩,
  ⟨5, ⟨some (.p2 .d1 .d12), (.mv (.t (.p2 .d0 .d0))), none⟩, .pur, 0⟩,
  ⟨6, ⟨some (.p2 .d1 .d13), (.nilc (.t (.p2 .d1 .d12))), none⟩, .pur, 0⟩,
  ⟨7, ⟨some (.p2 .d1 .d14), (.fa (.t (.p2 .d1 .d13)) 0), none⟩, .pur, 0⟩,
  ⟨8, ⟨some (.p2 .d1 .d15), (.ld1 (.t (.p2 .d1 .d14))), none⟩, .rd, 12⟩,
  ⟨9, ⟨some (.p2 .d2 .d0), (.len 1 (.t (.p2 .d1 .d15))), none⟩, .rd, 12⟩,
  ⟨10, ⟨some (.p2 .d2 .d1), (.lss (.t (.p2 .d1 .d11)) (.t (.p2 .d2 .d0))), none⟩, .pur, 0⟩]) (.cond (.t (.p2 .d2 .d1)) .skip (.exit 2))) (.block 3 (.seq (.seq (.reg [
  ⟨some (.p2 .d2 .d2), (.mv (.t (.p2 .d0 .d0))), none⟩,
  ⟨some (.p2 .d2 .d3), (.bslice 9 1 1 [(.str 0 0)] [(0, (.k (.str 4 1701869940)))]), none⟩,
  ⟨some (.p2 .d2 .d4), (.call ⟨57, .d0, .d3, .d9⟩ [(.t (.p2 .d2 .d2)), (.t (.p2 .d2 .d3))]), none⟩]) (.cond (.t (.p2 .d2 .d4)) (.reg [
  ⟨some (.p2 .d2 .d5), (.mv (.t (.p2 .d0 .d6))), none⟩,
  ⟨some (.p2 .d2 .d6), (.mv (.t (.p2 .d0 .d0))), none⟩,
  ⟨some (.p2 .d2 .d7), (.call ⟨59, .d0, .d3, .d11⟩ [(.t (.p2 .d2 .d6))]), none⟩,
  ⟨some (.p2 .d2 .d8), (.bslice 43 6 1 [(.i (.ofNat 0)), (.i (.ofNat 0)), (.i (.ofNat 0)), (.i (.ofNat 0)), (.str 0 0), .nils] [(0, (.t (.p2 .d2 .d7)))]), none⟩,
  ⟨some (.p2 .d2 .d9), (.append 43 6 72 (.t (.p2 .d2 .d5)) (.t (.p2 .d2 .d8))), none⟩,
  ⟨some (.p2 .d0 .d6), (.mv (.t (.p2 .d2 .d9))), none⟩]) (.reg [
  ⟨some (.p2 .d2 .d10), (.mv (.t (.p2 .d0 .d6))), none⟩,
  ⟨some (.p2 .d2 .d11), (.mv (.t (.p2 .d0 .d0))), none⟩,
  ⟨some (.p2 .d2 .d12), (.call ⟨60, .d0, .d3, .d12⟩ [(.t (.p2 .d2 .d11))]), none⟩,
  ⟨some (.p2 .d2 .d13), (.bslice 43 6 1 [(.i (.ofNat 0)), (.i (.ofNat 0)), (.i (.ofNat 0)), (.i (.ofNat 0)), (.str 0 0), .nils] [(0, (.t (.p2 .d2 .d12)))]), none⟩,
  ⟨some (.p2 .d2 .d14), (.append 43 6 72 (.t (.p2 .d2 .d10)) (.t (.p2 .d2 .d13))), none⟩,
  ⟨some (.p2 .d0 .d6), (.mv (.t (.p2 .d2 .d14))), none⟩]))) (.reg [
  ⟨some (.p2 .d2 .d15), (.mv (.t (.p2 .d0 .d0))), none⟩,
  ⟨some (.p2 .d3 .d0), (.call ⟨56, .d0, .d3, .d8⟩ [(.t (.p2 .d2 .d15))]), none⟩])))))) (.seq (.reg [
  ⟨some (.p2 .d3 .d1), (.mv (.t (.p2 .d0 .d1))), none⟩,
  ⟨some (.p2 .d3 .d2), (.fa (.t (.p2 .d0 .d5)) 2), none⟩,
  ⟨some (.p2 .d3 .d3), (.ld1 (.t (.p2 .d3 .d2))), none⟩,
  ⟨some (.p2 .d3 .d4), (.fa (.t (.p2 .d0 .d5)) 1), none⟩,
  ⟨some (.p2 .d3 .d5), (.ld1 (.t (.p2 .d3 .d4))), none⟩,
  ⟨some (.p2 .d3 .d6), (.mv (.t (.p2 .d0 .d6))), none⟩,
  ⟨some (.p2 .d3 .d7), (.build [(.i (.ofNat 0)), (.i (.ofNat 0)), (.i (.ofNat 0)), (.i (.ofNat 0)), (.str 0 0), .nils] [(0, 1, (.k (.i (.ofNat 1)))), (2, 1, (.t (.p2 .d3 .d1))), (3, 1, (.t (.p2 .d3 .d3))), (4, 1, (.t (.p2 .d3 .d5))), (5, 1, (.t (.p2 .d3 .d6)))]), none⟩,
  ⟨none, (.st 6 (.t (.p2 .d0 .d4)) (.t (.p2 .d3 .d7))), none⟩]) .ret)))))))), [.cell 6 true (.p2 .d0 .d4)]⟩
def cf33 : CF := ⟨33, true, (.seq (.reg [
  ⟨some (.p2 .d0 .d3), (.box 43 6 (.t (.p2 .d0 .d0))), none⟩,
  ⟨some (.p2 .d0 .d6), (.mv (.k (.i (.ofNat 0)))), none⟩]) (.seq (.seq (.reg [
  ⟨some (.p2 .d0 .d9), (.fa (.t (.p2 .d0 .d3)) 0), none⟩,
  ⟨some (.p2 .d0 .d10), (.ld1 (.t (.p2 .d0 .d9))), none⟩,
  ⟨some (.p2 .d0 .d11), (.eql (.cell (.int .i64)) (.t (.p2 .d0 .d10)) (.k (.i (.ofNat 0)))), none⟩]) (.cond (.t (.p2 .d0 .d11)) (.seq (.reg [
  ⟨some (.p2 .d0 .d12), (.mv (.t (.p2 .d0 .d2))), none⟩,
  ⟨some (.p2 .d0 .d6), (.mv (.t (.p2 .d0 .d12))), none⟩]) .ret) .skip)) (.seq (.seq (.reg [
  ⟨some (.p2 .d0 .d13), (.mv (.t (.p2 .d0 .d1))), none⟩,
  ⟨some (.p2 .d0 .d14), (.eql (.cell (.int .i64)) (.t (.p2 .d0 .d13)) (.k (.i (.ofNat 0)))), none⟩]) (.cond (.t (.p2 .d0 .d14)) (.reg [
  ⟨some (.p2 .d0 .d15), (.mv (.t (.p2 .d0 .d2))), none⟩,
  ⟨some (.p2 .d1 .d0), (.fa (.t (.p2 .d0 .d3)) 3), none⟩,
  ⟨some (.p2 .d1 .d1), (.ld1 (.t (.p2 .d1 .d0))), none⟩,
  ⟨some (.p2 .d1 .d2), (.min [(.t (.p2 .d0 .d15)), (.t (.p2 .d1 .d1))]), none⟩,
  ⟨some (.p2 .d0 .d2), (.mv (.t (.p2 .d1 .d2))), none⟩]) .skip)) (.seq (.seq (.reg [
  ⟨some (.p2 .d1 .d3), (.fa (.t (.p2 .d0 .d3)) 5), none⟩,
  ⟨some (.p2 .d1 .d4), (.ld1 (.t (.p2 .d1 .d3))), none⟩,
  ⟨some (.p2 .d1 .d5), (.len 1 (.t (.p2 .d1 .d4))), none⟩,
  ⟨some (.p2 .d1 .d6), (.mv (.k (.i (.ofNat 0)))), none⟩]) (.block 0 (.loop (.seq (.reg [
  ⟨some (.p2 .d1 .d7), (.lss (.t (.p2 .d1 .d6)) (.t (.p2 .d1 .d5))), none⟩]) (.seq (.cond (.t (.p2 .d1 .d7)) .skip (.exit 0)) (.seq (.block 1 (.seq (.reg [
  ⟨some (.p2 .d1 .d8), (.ia 6 (.t (.p2 .d1 .d4)) (.t (.p2 .d1 .d6))), none⟩,
  ⟨some (.p2 .d1 .d9), (.ldn 6 (.t (.p2 .d1 .d8))), none⟩,
  ⟨some (.p2 .d0 .d8), (.alloc 43 [(.i (.ofNat 0)), (.i (.ofNat 0)), (.i (.ofNat 0)), (.i (.ofNat 0)), (.str 0 0), .nils]), none⟩,
  ⟨none, (.st 6 (.t (.p2 .d0 .d8)) (.t (.p2 .d1 .d9))), none⟩]) (.reg [
  ⟨some (.p2 .d1 .d10), (.ldn 6 (.t (.p2 .d0 .d8))), none⟩,
  ⟨some (.p2 .d1 .d11), (.mv (.t (.p2 .d0 .d1))), none⟩,
  ⟨some (.p2 .d1 .d12), (.sub (.t (.p2 .d1 .d11)) (.k (.i (.ofNat 1)))), none⟩,
  ⟨some (.p2 .d1 .d13), (.max [(.k (.i (.ofNat 0))), (.t (.p2 .d1 .d12))]), none⟩,
  ⟨some (.p2 .d1 .d14), (.mv (.t (.p2 .d0 .d2))), none⟩,
  ⟨some (.p2 .d1 .d15), (.call ⟨33, .d0, .d2, .d1⟩ [(.t (.p2 .d1 .d10)), (.t (.p2 .d1 .d13)), (.t (.p2 .d1 .d14))]), none⟩,
  ⟨some (.p2 .d0 .d2), (.mv (.t (.p2 .d1 .d15))), none⟩]))) (.reg [
  ⟨some (.p2 .d2 .d0), (.add (.t (.p2 .d1 .d6)) (.k (.i (.ofNat 1)))), none⟩,
  ⟨some (.p2 .d1 .d6), (.mv (.t (.p2 .d2 .d0))), none⟩]))))))) (.seq (.reg [
  ⟨some (.p2 .d2 .d1), (.mv (.t (.p2 .d0 .d2))), none⟩,
  ⟨some (.p2 .d0 .d6), (.mv (.t (.p2 .d2 .d1))), none⟩]) .ret))))), [.tmp (.p2 .d0 .d6)]⟩
def cf34 : CF := ⟨34, true, (.seq (.reg [
  ⟨some (.p2 .d0 .d2), (.box 29 3 (.t (.p2 .d0 .d0))), none⟩,
  ⟨some (.p2 .d0 .d3), (.box 29 3 (.t (.p2 .d0 .d1))), none⟩,
  ⟨some (.p2 .d0 .d4), (.mv (.k (.i (.ofNat 0)))), none⟩]) (.seq (.dreg [
  ⟨0, ⟨some (.p2 .d0 .d5), (.fa (.t (.p2 .d0 .d2)) 0), none⟩, .pur, 0⟩,
  ⟨1, ⟨some (.p2 .d0 .d6), (.ld1 (.t (.p2 .d0 .d5))), none⟩, .rd, 0⟩,
  ⟨2, ⟨some (.p2 .d0 .d7), (.fa (.t (.p2 .d0 .d3)) 0), none⟩, .pur, 0⟩,
  ⟨3, ⟨some (.p2 .d0 .d8), (.ld1 (.t (.p2 .d0 .d7))), none⟩, .rd, 0⟩,
  ⟨5, ⟨some (.p2 .d0 .d10), (.fa (.t (.p2 .d0 .d2)) 1), none⟩, .pur, 0⟩,
  ⟨6, ⟨some (.p2 .d0 .d11), (.ld1 (.t (.p2 .d0 .d10))), none⟩, .rd, 1⟩,
  ⟨7, ⟨some (.p2 .d0 .d12), (.fa (.t (.p2 .d0 .d3)) 1), none⟩, .pur, 0⟩,
  ⟨8, ⟨some (.p2 .d0 .d13), (.ld1 (.t (.p2 .d0 .d12))), none⟩, .rd, 1⟩,
  ⟨10, ⟨some (.p2 .d0 .d15), (.fa (.t (.p2 .d0 .d2)) 2), none⟩, .pur, 0⟩,
  ⟨11, ⟨some (.p2 .d1 .d0), (.ld1 (.t (.p2 .d0 .d15))), none⟩, .rd, 2⟩,
  ⟨12, ⟨some (.p2 .d1 .d1), (.fa (.t (.p2 .d0 .d3)) 2), none⟩, .pur, 0⟩,
  ⟨13, ⟨some (.p2 .d1 .d2), (.ld1 (.t (.p2 .d1 .d1))), none⟩, .rd, 2⟩,
  ⟨4, ⟨some (.p2 .d0 .d9), (.call ⟨62, .d0, .d3, .d14⟩ [(.t (.p2 .d0 .d6)), (.t (.p2 .d0 .d8))]), none⟩, .ev, 0⟩,
  ⟨9, ⟨some (.p2 .d0 .d14), (.call ⟨62, .d0, .d3, .d14⟩ [(.t (.p2 .d0 .d11)), (.t (.p2 .d0 .d13))]), none⟩, .ev, 1⟩,
  ⟨14, ⟨some (.p2 .d1 .d3), (.call ⟨63, .d0, .d3, .d15⟩ [(.t (.p2 .d1 .d0)), (.t (.p2 .d1 .d2))]), none⟩, .ev, 2⟩,
  ⟨15, ⟨some (.p2 .d1 .d4), (.bslice 3 1 3 [(.i (.ofNat 0))] [(0, (.t (.p2 .d0 .d9))), (1, (.t (.p2 .d0 .d14))), (2, (.t (.p2 .d1 .d3)))]), none⟩, .ev, 3⟩,
  ⟨16, ⟨some (.p2 .d1 .d5), (.call ⟨61, .d0, .d3, .d13⟩ [(.t (.p2 .d1 .d4))]), none⟩, .ev, 4⟩,
  ⟨17, ⟨some (.p2 .d0 .d4), (.mv (.t (.p2 .d1 .d5))), none⟩, .pur, 0⟩]) .ret)), [.tmp (.p2 .d0 .d4)]⟩
def cf35 : CF := ⟨35, true, (.seq (.reg [
  ⟨some (.p2 .d0 .d4), (.mv (.k (.bool false))), none⟩]) (.seq (.reg [
  ⟨some (.p2 .d0 .d5), (.mv (.t (.p2 .d0 .d0))), none⟩,
  ⟨some (.p2 .d0 .d6), (.mv (.t (.p2 .d0 .d1))), none⟩,
  ⟨some (.p2 .d0 .d7), (.call ⟨64, .d0, .d4, .d0⟩ [(.t (.p2 .d0 .d5)), (.t (.p2 .d0 .d6))]), none⟩,
  ⟨some (.p2 .d0 .d8), (.geq (.t (.p2 .d0 .d7)) (.k (.i (.ofNat 0)))), none⟩,
  ⟨some (.p2 .d0 .d4), (.mv (.t (.p2 .d0 .d8))), none⟩]) .ret)), [.tmp (.p2 .d0 .d4)]⟩
def cf36 : CF := ⟨36, true, (.seq (.reg [
  ⟨some (.p2 .d0 .d8), (.mv (.k (.bool false))), none⟩]) (.seq (.seq (.reg [
  ⟨some (.p2 .d0 .d13), (.mv (.t (.p2 .d0 .d1))), none⟩,
  ⟨some (.p2 .d0 .d14), (.mv (.t (.p2 .d0 .d2))), none⟩,
  ⟨some (.p2 .d0 .d15), (.eql (.cell .str) (.t (.p2 .d0 .d13)) (.t (.p2 .d0 .d14))), none⟩]) (.cond (.t (.p2 .d0 .d15)) (.seq (.reg [
  ⟨some (.p2 .d0 .d8), (.mv (.k (.bool true))), none⟩]) .ret) .skip)) (.seq (.reg [
  ⟨some (.p2 .d1 .d0), (.mv (.t (.p2 .d0 .d3))), none⟩,
  ⟨some (.p2 .d1 .d1), (.mv (.t (.p2 .d0 .d1))), none⟩,
  ⟨some (.p2 .d1 .d2), (.lkp (.cell .str) (.i (.ofNat 0)) (.t (.p2 .d1 .d0)) (.t (.p2 .d1 .d1)) false), none⟩,
  ⟨some (.p2 .d1 .d3), (.add (.t (.p2 .d1 .d2)) (.k (.i (.ofNat 1)))), none⟩,
  ⟨none, (.mupd (.cell .str) (.t (.p2 .d1 .d0)) (.t (.p2 .d1 .d1)) (.t (.p2 .d1 .d3))), none⟩]) (.seq (.seq (.reg [
  ⟨some (.p2 .d1 .d4), (.mv (.t (.p2 .d0 .d0))), none⟩,
  ⟨some (.p2 .d1 .d5), (.nilc (.t (.p2 .d1 .d4))), none⟩,
  ⟨some (.p2 .d1 .d6), (.fa (.t (.p2 .d1 .d5)) 1), none⟩,
  ⟨some (.p2 .d1 .d7), (.ld1 (.t (.p2 .d1 .d6))), none⟩,
  ⟨some (.p2 .d1 .d8), (.len 1 (.t (.p2 .d1 .d7))), none⟩,
  ⟨some (.p2 .d1 .d9), (.mv (.k (.i (.ofNat 0)))), none⟩]) (.block 0 (.loop (.seq (.reg [
  ⟨some (.p2 .d1 .d10), (.lss (.t (.p2 .d1 .d9)) (.t (.p2 .d1 .d8))), none⟩]) (.seq (.cond (.t (.p2 .d1 .d10)) .skip (.exit 0)) (.seq (.block 1 (.seq (.reg [
  ⟨some (.p2 .d1 .d11), (.mv (.t (.p2 .d1 .d9))), none⟩,
  ⟨some (.p2 .d1 .d12), (.ia 6 (.t (.p2 .d1 .d7)) (.t (.p2 .d1 .d9))), none⟩,
  ⟨some (.p2 .d1 .d13), (.ldn 6 (.t (.p2 .d1 .d12))), none⟩,
  ⟨some (.p2 .d0 .d10), (.alloc 43 [(.i (.ofNat 0)), (.i (.ofNat 0)), (.i (.ofNat 0)), (.i (.ofNat 0)), (.str 0 0), .nils]), none⟩,
  ⟨some (.p2 .d0 .d9), (.mv (.t (.p2 .d1 .d11))), none⟩,
  ⟨none, (.st 6 (.t (.p2 .d0 .d10)) (.t (.p2 .d1 .d13))), none⟩]) (.seq (.reg [
  ⟨some (.p2 .d1 .d14), (.fa (.t (.p2 .d0 .d10)) 5), none⟩,
  ⟨some (.p2 .d1 .d15), (.ld1 (.t (.p2 .d1 .d14))), none⟩,
  ⟨some (.p2 .d2 .d0), (.len 1 (.t (.p2 .d1 .d15))), none⟩,
  ⟨some (.p2 .d2 .d1), (.mv (.k (.i (.ofNat 0)))), none⟩]) (.block 2 (.loop (.seq (.reg [
  ⟨some (.p2 .d2 .d2), (.lss (.t (.p2 .d2 .d1)) (.t (.p2 .d2 .d0))), none⟩]) (.seq (.cond (.t (.p2 .d2 .d2)) .skip (.exit 2)) (.seq (.block 3 (.seq (.reg [
  ⟨some (.p2 .d2 .d3), (.ia 6 (.t (.p2 .d1 .d15)) (.t (.p2 .d2 .d1))), none⟩,
  ⟨some (.p2 .d2 .d4), (.ldn 6 (.t (.p2 .d2 .d3))), none⟩,
  ⟨some (.p2 .d0 .d12), (.alloc 43 [(.i (.ofNat 0)), (.i (.ofNat 0)), (.i (.ofNat 0)), (.i (.ofNat 0)), (.str 0 0), .nils]), none⟩,
  ⟨none, (.st 6 (.t (.p2 .d0 .d12)) (.t (.p2 .d2 .d4))), none⟩]) (.seq (.reg [
  ⟨some (.p2 .d2 .d5), (.mv (.t (.p2 .d0 .d0))), none⟩,
  ⟨some (.p2 .d2 .d6), (.nilc (.t (.p2 .d2 .d5))), none⟩,
  ⟨some (.p2 .d2 .d7), (.fa (.t (.p2 .d2 .d6)) 2), none⟩,
  ⟨some (.p2 .d2 .d8), (.ld1 (.t (.p2 .d2 .d7))), none⟩,
  ⟨some (.p2 .d2 .d9), (.mv (.t (.p2 .d0 .d9))), none⟩,
  ⟨some (.p2 .d2 .d10), (.ia 1 (.t (.p2 .d2 .d8)) (.t (.p2 .d2 .d9))), none⟩,
  ⟨some (.p2 .d2 .d11), (.ld1 (.t (.p2 .d2 .d10))), none⟩,
  ⟨some (.p2 .d2 .d12), (.mv (.t (.p2 .d0 .d1))), none⟩,
  ⟨some (.p2 .d2 .d13), (.eql (.cell .str) (.t (.p2 .d2 .d11)) (.t (.p2 .d2 .d12))), none⟩,
  ⟨some (.p2 .d2 .d14), (.mv (.t (.p2 .d2 .d13))), none⟩,
  ⟨some (.p2 .d2 .d15), (.fa (.t (.p2 .d0 .d12)) 0), some ((.p2 .d2 .d14), true)⟩,
  ⟨some (.p2 .d3 .d0), (.ld1 (.t (.p2 .d2 .d15))), some ((.p2 .d2 .d14), true)⟩,
  ⟨some (.p2 .d3 .d1), (.eql (.cell (.int .i64)) (.t (.p2 .d3 .d0)) (.k (.i (.ofNat 2)))), some ((.p2 .d2 .d14), true)⟩,
  ⟨some (.p2 .d3 .d2), (.pick (.t (.p2 .d2 .d14)) (.t (.p2 .d3 .d1)) (.k (.bool false))), none⟩,
  ⟨some (.p2 .d3 .d3), (.mv (.t (.p2 .d3 .d2))), none⟩,
  ⟨some (.p2 .d3 .d4), (.mv (.t (.p2 .d0 .d3))), some ((.p2 .d3 .d3), true)⟩,
  ⟨some (.p2 .d3 .d5), (.fa (.t (.p2 .d0 .d12)) 4), some ((.p2 .d3 .d3), true)⟩,
  ⟨some (.p2 .d3 .d6), (.ld1 (.t (.p2 .d3 .d5))), some ((.p2 .d3 .d3), true)⟩,
  ⟨some (.p2 .d3 .d7), (.lkp (.cell .str) (.i (.ofNat 0)) (.t (.p2 .d3 .d4)) (.t (.p2 .d3 .d6)) false), some ((.p2 .d3 .d3), true)⟩,
  ⟨some (.p2 .d3 .d8), (.eql (.cell (.int .i64)) (.t (.p2 .d3 .d7)) (.k (.i (.ofNat 0)))), some ((.p2 .d3 .d3), true)⟩,
  ⟨some (.p2 .d3 .d9), (.pick (.t (.p2 .d3 .d3)) (.t (.p2 .d3 .d8)) (.k (.bool false))), none⟩,
  ⟨some (.p2 .d3 .d10), (.mv (.t (.p2 .d3 .d9))), none⟩,
  ⟨some (.p2 .d3 .d11), (.mv (.t (.p2 .d0 .d0))), some ((.p2 .d3 .d10), true)⟩,
  ⟨some (.p2 .d3 .d12), (.fa (.t (.p2 .d0 .d12)) 4), some ((.p2 .d3 .d10), true)⟩,
  ⟨some (.p2 .d3 .d13), (.ld1 (.t (.p2 .d3 .d12))), some ((.p2 .d3 .d10), true)⟩,
  ⟨some (.p2 .d3 .d14), (.mv (.t (.p2 .d0 .d2))), some ((.p2 .d3 .d10), true)⟩,
  ⟨some (.p2 .d3 .d15), (.mv (.t (.p2 .d0 .d3))), some ((.p2 .d3 .d10), true)⟩,
  ⟨some (.p2 .d4 .d0), (.call ⟨36, .d0, .d2, .d4⟩ [(.t (.p2 .d3 .d11)), (.t (.p2 .d3 .d13)), (.t (.p2 .d3 .d14)), (.t (.p2 .d3 .d15))]), some ((.p2 .d3 .d10), true)⟩,
  ⟨some (.p2 .d4 .d1), (.pick (.t (.p2 .d3 .d10)) (.t (.p2 .d4 .d0)) (.k (.bool false))), none⟩]) (.cond (.t (.p2 .d4 .d1)) (.seq (.reg [
  ⟨some (.p2 .d0 .d8), (.mv (.k (.bool true))), none⟩]) .ret) .skip)))) (.reg [
  ⟨some (.p2 .d4 .d2), (.add (.t (.p2 .d2 .d1)) (.k (.i (.ofNat 1)))), none⟩,
  ⟨some (.p2 .d2 .d1), (.mv (.t (.p2 .d4 .d2))), none⟩]))))))))) (.reg [
  ⟨some (.p2 .d4 .d3), (.add (.t (.p2 .d1 .d9)) (.k (.i (.ofNat 1)))), none⟩,
  ⟨some (.p2 .d1 .d9), (.mv (.t (.p2 .d4 .d3))), none⟩]))))))) (.seq (.reg [
  ⟨some (.p2 .d0 .d8), (.mv (.k (.bool false))), none⟩]) .ret))))), [.tmp (.p2 .d0 .d8)]⟩
def cf37 : CF := ⟨37, true, (.seq (.reg [
  ⟨some (.p2 .d1 .d6), .mkmap, none⟩,
  ⟨some (.p2 .d0 .d2), (.mv (.t (.p2 .d1 .d6))), none⟩]) (.seq (.reg [
  ⟨some (.p2 .d0 .d3), (.mv (.k .nils)), none⟩]) (.seq (.seq (.reg [
  ⟨some (.p2 .d1 .d7), (.mv (.t (.p2 .d0 .d0))), none⟩,
  ⟨some (.p2 .d1 .d8), (.nilc (.t (.p2 .d1 .d7))), none⟩,
  ⟨some (.p2 .d1 .d9), (.fa (.t (.p2 .d1 .d8)) 1), none⟩,
  ⟨some (.p2 .d1 .d10), (.ld1 (.t (.p2 .d1 .d9))), none⟩,
  ⟨some (.p2 .d1 .d11), (.len 1 (.t (.p2 .d1 .d10))), none⟩,
  ⟨some (.p2 .d1 .d12), (.mv (.k (.i (.ofNat 0)))), none⟩]) (.block 0 (.loop (.seq (.reg [
  ⟨some (.p2 .d1 .d13), (.lss (.t (.p2 .d1 .d12)) (.t (.p2 .d1 .d11))), none⟩]) (.seq (.cond (.t (.p2 .d1 .d13)) .skip (.exit 0)) (.seq (.block 1 (.seq (.reg [
  ⟨some (.p2 .d1 .d14), (.mv (.t (.p2 .d1 .d12))), none⟩,
  ⟨some (.p2 .d1 .d15), (.ia 6 (.t (.p2 .d1 .d10)) (.t (.p2 .d1 .d12))), none⟩,
  ⟨some (.p2 .d2 .d0), (.ldn 6 (.t (.p2 .d1 .d15))), none⟩,
  ⟨some (.p2 .d0 .d5), (.alloc 43 [(.i (.ofNat 0)), (.i (.ofNat 0)), (.i (.ofNat 0)), (.i (.ofNat 0)), (.str 0 0), .nils]), none⟩,
  ⟨some (.p2 .d0 .d4), (.mv (.t (.p2 .d1 .d14))), none⟩,
  ⟨none, (.st 6 (.t (.p2 .d0 .d5)) (.t (.p2 .d2 .d0))), none⟩]) (.seq (.reg [
  ⟨some (.p2 .d2 .d1), (.fa (.t (.p2 .d0 .d5)) 5), none⟩,
  ⟨some (.p2 .d2 .d2), (.ld1 (.t (.p2 .d2 .d1))), none⟩,
  ⟨some (.p2 .d2 .d3), (.len 1 (.t (.p2 .d2 .d2))), none⟩,
  ⟨some (.p2 .d2 .d4), (.mv (.k (.i (.ofNat 0)))), none⟩]) (.block 2 (.loop (.seq (.reg [
  ⟨some (.p2 .d2 .d5), (.lss (.t (.p2 .d2 .d4)) (.t (.p2 .d2 .d3))), none⟩]) (.seq (.cond (.t (.p2 .d2 .d5)) .skip (.exit 2)) (.seq (.block 3 (.seq (.reg [
  ⟨some (.p2 .d2 .d6), (.ia 6 (.t (.p2 .d2 .d2)) (.t (.p2 .d2 .d4))), none⟩,
  ⟨some (.p2 .d2 .d7), (.ldn 6 (.t (.p2 .d2 .d6))), none⟩,
  ⟨some (.p2 .d0 .d7), (.alloc 43 [(.i (.ofNat 0)), (.i (.ofNat 0)), (.i (.ofNat 0)), (.i (.ofNat 0)), (.str 0 0), .nils]), none⟩,
  ⟨none, (.st 6 (.t (.p2 .d0 .d7)) (.t (.p2 .d2 .d7))), none⟩]) (.block 4 (.seq (.reg [
  ⟨some (.p2 .d4 .d6), (.fa (.t (.p2 .d0 .d7)) 0), none⟩,
  ⟨some (.p2 .d4 .d7), (.ld1 (.t (.p2 .d4 .d6))), none⟩,
  ⟨some (.p2 .d4 .d8), (.eql (.cell (.int .i64)) (.t (.p2 .d4 .d7)) (.k (.i (.ofNat 2)))), none⟩,
  ⟨some (.p2 .d4 .d5), (.mv (.t (.p2 .d4 .d8))), none⟩]) (.cond (.t (.p2 .d4 .d5)) (.reg [
  ⟨some (.p2 .d4 .d9), (.mv (.t (.p2 .d0 .d3))), none⟩,
  ⟨some (.p2 .d4 .d10), (.mv (.t (.p2 .d0 .d0))), none⟩,
  ⟨some (.p2 .d4 .d11), (.mv (.t (.p2 .d0 .d4))), none⟩,
  ⟨some (.p2 .d4 .d12), (.ldn 6 (.t (.p2 .d0 .d7))), none⟩,
  ⟨some (.p2 .d4 .d13), (.call ⟨65, .d0, .d4, .d1⟩ [(.t (.p2 .d4 .d10)), (.k (.i (.ofNat 1))), (.t (.p2 .d4 .d11)), (.t (.p2 .d4 .d12))]), none⟩,
  ⟨some (.p2 .d4 .d14), (.bslice 35 5 1 [(.i (.ofNat 0)), (.str 0 0), (.i (.ofNat 0)), (.i (.ofNat 0)), (.str 0 0)] [(0, (.t (.p2 .d4 .d13)))]), none⟩,
  ⟨some (.p2 .d4 .d15), (.append 35 5 56 (.t (.p2 .d4 .d9)) (.t (.p2 .d4 .d14))), none⟩,
  ⟨some (.p2 .d0 .d3), (.mv (.t (.p2 .d4 .d15))), none⟩]) (.seq (.reg [
  ⟨some (.p2 .d5 .d1), (.fa (.t (.p2 .d0 .d7)) 0), none⟩,
  ⟨some (.p2 .d5 .d2), (.ld1 (.t (.p2 .d5 .d1))), none⟩,
  ⟨some (.p2 .d5 .d3), (.eql (.cell (.int .i64)) (.t (.p2 .d5 .d2)) (.k (.i (.ofNat 3)))), none⟩,
  ⟨some (.p2 .d5 .d0), (.mv (.t (.p2 .d5 .d3))), none⟩]) (.cond (.t (.p2 .d5 .d0)) (.seq (.dreg [
  ⟨0, ⟨some (.p2 .d5 .d4), (.mv (.t (.p2 .d0 .d0))), none⟩, .pur, 0⟩,
  ⟨1, ⟨some (.p2 .d5 .d5), (.nilc (.t (.p2 .d5 .d4))), none⟩, .pur, 0⟩,
  ⟨2, ⟨some (.p2 .d5 .d6), (.fa (.t (.p2 .d5 .d5)) 7), none⟩, .pur, 0⟩,
  ⟨3, ⟨some (.p2 .d5 .d7), (.ld1 (.t (.p2 .d5 .d6))), none⟩, .rd, 3⟩,
  ⟨4, ⟨some (.p2 .d5 .d8), (.mv (.t (.p2 .d0 .d0))), none⟩, .pur, 0⟩,
  ⟨5, ⟨some (.p2 .d5 .d9), (.nilc (.t (.p2 .d5 .d8))), none⟩, .pur, 0⟩,
  ⟨6, ⟨some (.p2 .d5 .d10), (.fa (.t (.p2 .d5 .d9)) 2), none⟩, .pur, 0⟩,
  ⟨7, ⟨some (.p2 .d5 .d11), (.ld1 (.t (.p2 .d5 .d10))), none⟩, .rd, 3⟩,
  ⟨8, ⟨some (.p2 .d5 .d12), (.mv (.t (.p2 .d0 .d4))), none⟩, .pur, 0⟩,
  ⟨9, ⟨some (.p2 .d5 .d13), (.ia 1 (.t (.p2 .d5 .d11)) (.t (.p2 .d5 .d12))), none⟩, .pur, 0⟩,
  ⟨10, ⟨some (.p2 .d5 .d14), (.ld1 (.t (.p2 .d5 .d13))), none⟩, .rd, 3⟩,
  ⟨11, ⟨some (.p2 .d5 .d15), (.mv (.t (.p2 .d0 .d0))), none⟩, .pur, 0⟩,
  ⟨12, ⟨some (.p2 .d6 .d0), (.nilc (.t (.p2 .d5 .d15))), none⟩, .pur, 0⟩,
  ⟨13, ⟨some (.p2 .d6 .d1), (.fa (.t (.p2 .d6 .d0)) 7), none⟩, .pur, 0⟩,
  ⟨14, ⟨some (.p2 .d6 .d2), (.ld1 (.t (.p2 .d6 .d1))), none⟩, .rd, 2⟩,
  ⟨15, ⟨some (.p2 .d6 .d3), (.mv (.t (.p2 .d0 .d0))), none⟩, .pur, 0⟩,
  ⟨16, ⟨some (.p2 .d6 .d4), (.nilc (.t (.p2 .d6 .d3))), none⟩, .pur, 0⟩,
  ⟨17, ⟨some (.p2 .d6 .d5), (.fa (.t (.p2 .d6 .d4)) 2), none⟩, .pur, 0⟩,
  ⟨18, ⟨some (.p2 .d6 .d6), (.ld1 (.t (.p2 .d6 .d5))), none⟩, .rd, 2⟩,
  ⟨19, ⟨some (.p2 .d6 .d7), (.mv (.t (.p2 .d0 .d4))), none⟩, .pur, 0⟩,
  ⟨20, ⟨some (.p2 .d6 .d8), (.ia 1 (.t (.p2 .d6 .d6)) (.t (.p2 .d6 .d7))), none⟩, .pur, 0⟩,
  ⟨21, ⟨some (.p2 .d6 .d9), (.ld1 (.t (.p2 .d6 .d8))), none⟩, .rd, 2⟩,
  ⟨22, ⟨some (.p2 .d6 .d10), (.lkp (.cell .str) .nils (.t (.p2 .d6 .d2)) (.t (.p2 .d6 .d9)) false), none⟩, .rd, 2⟩,
  ⟨23, ⟨some (.p2 .d6 .d11), (.mv (.t (.p2 .d0 .d0))), none⟩, .pur, 0⟩,
  ⟨24, ⟨some (.p2 .d6 .d12), (.mv (.t (.p2 .d0 .d4))), none⟩, .pur, 0⟩,
  ⟨25, ⟨some (.p2 .d6 .d13), (.ldn 6 (.t (.p2 .d0 .d7))), none⟩, .rd, 0⟩,
  ⟨26, ⟨some (.p2 .d6 .d14), (.call ⟨65, .d0, .d4, .d1⟩ [(.t (.p2 .d6 .d11)), (.k (.i (.ofNat 2))), (.t (.p2 .d6 .d12)), (.t (.p2 .d6 .d13))]), none⟩, .ev, 0⟩,
  ⟨27, ⟨some (.p2 .d6 .d15), (.bslice 35 5 1 [(.i (.ofNat 0)), (.str 0 0), (.i (.ofNat 0)), (.i (.ofNat 0)), (.str 0 0)] [(0, (.t (.p2 .d6 .d14)))]), none⟩, .ev, 1⟩,
  ⟨28, ⟨some (.p2 .d7 .d0), (.append 35 5 56 (.t (.p2 .d6 .d10)) (.t (.p2 .d6 .d15))), none⟩, .ev, 2⟩,
  ⟨29, ⟨none, (.mupd (.cell .str) (.t (.p2 .d5 .d7)) (.t (.p2 .d5 .d14)) (.t (.p2 .d7 .d0))), none⟩, .ev, 3⟩]) (.seq (.dreg [
  ⟨0, ⟨some (.p2 .d7 .d1), (.mv (.t (.p2 .d0 .d0))), none⟩, .pur, 0⟩,
  ⟨1, ⟨some (.p2 .d7 .d2), (.nilc (.t (.p2 .d7 .d1))), none⟩, .pur, 0⟩,
  ⟨2, ⟨some (.p2 .d7 .d3), (.fa (.t (.p2 .d7 .d2)) 2), none⟩, .pur, 0⟩,
  ⟨3, ⟨some (.p2 .d7 .d4), (.ld1 (.t (.p2 .d7 .d3))), none⟩, .rd, 0⟩,
  ⟨4, ⟨some (.p2 .d7 .d5), (.mv (.t (.p2 .d0 .d4))), none⟩, .pur, 0⟩,
  ⟨5, ⟨some (.p2 .d7 .d6), (.ia 1 (.t (.p2 .d7 .d4)) (.t (.p2 .d7 .d5))), none⟩, .pur, 0⟩,
  ⟨6, ⟨some (.p2 .d7 .d7), (.ld1 (.t (.p2 .d7 .d6))), none⟩, .rd, 0⟩,
  ⟨7, ⟨some (.p2 .d7 .d8), (.fa (.t (.p2 .d0 .d7)) 4), none⟩, .pur, 0⟩,
  ⟨8, ⟨some (.p2 .d7 .d9), (.ld1 (.t (.p2 .d7 .d8))), none⟩, .rd, 0⟩,
  ⟨9, ⟨some (.p2 .d7 .d10), (.call ⟨66, .d0, .d4, .d2⟩ [(.t (.p2 .d7 .d7)), (.t (.p2 .d7 .d9))]), none⟩, .ev, 0⟩,
  ⟨10, ⟨some (.p2 .d0 .d8), (.mv (.t (.p2 .d7 .d10))), none⟩, .pur, 0⟩]) (.seq (.reg [
  ⟨some (.p2 .d7 .d11), (.fa (.t (.p2 .d0 .d7)) 5), none⟩,
  ⟨some (.p2 .d7 .d12), (.ld1 (.t (.p2 .d7 .d11))), none⟩,
  ⟨some (.p2 .d7 .d13), (.len 1 (.t (.p2 .d7 .d12))), none⟩,
  ⟨some (.p2 .d7 .d14), (.mv (.k (.i (.ofNat 0)))), none⟩]) (.block 5 (.loop (.seq (.reg [
  ⟨some (.p2 .d7 .d15), (.lss (.t (.p2 .d7 .d14)) (.t (.p2 .d7 .d13))), none⟩]) (.seq (.cond (.t (.p2 .d7 .d15)) .skip (.exit 5)) (.seq (.block 6 (.seq (.reg [
  ⟨some (.p2 .d8 .d0), (.ia 6 (.t (.p2 .d7 .d12)) (.t (.p2 .d7 .d14))), none⟩,
  ⟨some (.p2 .d8 .d1), (.ldn 6 (.t (.p2 .d8 .d0))), none⟩,
  ⟨some (.p2 .d0 .d10), (.alloc 43 [(.i (.ofNat 0)), (.i (.ofNat 0)), (.i (.ofNat 0)), (.i (.ofNat 0)), (.str 0 0), .nils]), none⟩,
  ⟨none, (.st 6 (.t (.p2 .d0 .d10)) (.t (.p2 .d8 .d1))), none⟩]) (.dreg [
  ⟨0, ⟨some (.p2 .d8 .d2), (.mv (.t (.p2 .d0 .d0))), none⟩, .pur, 0⟩,
  ⟨1, ⟨some (.p2 .d8 .d3), (.nilc (.t (.p2 .d8 .d2))), none⟩, .pur, 0⟩,
  ⟨2, ⟨some (.p2 .d8 .d4), (.fa (.t (.p2 .d8 .d3)) 8), none⟩, .pur, 0⟩,
  ⟨3, ⟨some (.p2 .d8 .d5), (.ld1 (.t (.p2 .d8 .d4))), none⟩, .rd, 3⟩,
  ⟨4, ⟨some (.p2 .d8 .d6), (.mv (.t (.p2 .d0 .d8))), none⟩, .pur, 0⟩,
  ⟨5, ⟨some (.p2 .d8 .d7), (.mv (.t (.p2 .d0 .d0))), none⟩, .pur, 0⟩,
  ⟨6, ⟨some (.p2 .d8 .d8), (.nilc (.t (.p2 .d8 .d7))), none⟩, .pur, 0⟩,
  ⟨7, ⟨some (.p2 .d8 .d9), (.fa (.t (.p2 .d8 .d8)) 8), none⟩, .pur, 0⟩,
  ⟨8, ⟨some (.p2 .d8 .d10), (.ld1 (.t (.p2 .d8 .d9))), none⟩, .rd, 2⟩,
  ⟨9, ⟨some (.p2 .d8 .d11), (.mv (.t (.p2 .d0 .d8))), none⟩, .pur, 0⟩,
  ⟨10, ⟨some (.p2 .d8 .d12), (.lkp (.cell .str) .nils (.t (.p2 .d8 .d10)) (.t (.p2 .d8 .d11)) false), none⟩, .rd, 2⟩,
  ⟨11, ⟨some (.p2 .d8 .d13), (.mv (.t (.p2 .d0 .d0))), none⟩, .pur, 0⟩,
  ⟨12, ⟨some (.p2 .d8 .d14), (.mv (.t (.p2 .d0 .d4))), none⟩, .pur, 0⟩,
  ⟨13, ⟨some (.p2 .d8 .d15), (.ldn 6 (.t (.p2 .d0 .d10))), none⟩, .rd, 0⟩,
  ⟨14, ⟨some (.p2 .d9 .d0), (.call ⟨65, .d0, .d4, .d1⟩ [(.t (.p2 .d8 .d13)), (.k (.i (.ofNat 5))), (.t (.p2 .d8 .d14)), (.t (.p2 .d8 .d15))]), none⟩, .ev, 0⟩,
  ⟨15, ⟨some (.p2 .d9 .d1), (.bslice 35 5 1 [(.i (.ofNat 0)), (.str 0 0), (.i (.ofNat 0)), (.i (.ofNat 0)), (.str 0 0)] [(0, (.t (.p2 .d9 .d0)))]), none⟩, .ev, 1⟩,
  ⟨16, ⟨some (.p2 .d9 .d2), (.append 35 5 56 (.t (.p2 .d8 .d12)) (.t (.p2 .d9 .d1))), none⟩, .ev, 2⟩,
  ⟨17, ⟨none, (.mupd (.cell .str) (.t (.p2 .d8 .d5)) (.t (.p2 .d8 .d6)) (.t (.p2 .d9 .d2))), none⟩, .ev, 3⟩]))) (.reg [
  ⟨some (.p2 .d9 .d3), (.add (.t (.p2 .d7 .d14)) (.k (.i (.ofNat 1)))), none⟩,
  ⟨some (.p2 .d7 .d14), (.mv (.t (.p2 .d9 .d3))), none⟩]))))))))) (.seq (.reg [
  ⟨some (.p2 .d9 .d5), (.fa (.t (.p2 .d0 .d7)) 5), none⟩,
  ⟨some (.p2 .d9 .d6), (.ld1 (.t (.p2 .d9 .d5))), none⟩,
  ⟨some (.p2 .d9 .d7), (.ia 6 (.t (.p2 .d9 .d6)) (.k (.i (.ofNat 0)))), none⟩,
  ⟨some (.p2 .d9 .d8), (.fa (.t (.p2 .d9 .d7)) 0), none⟩,
  ⟨some (.p2 .d9 .d9), (.ld1 (.t (.p2 .d9 .d8))), none⟩,
  ⟨some (.p2 .d9 .d10), (.neq (.cell (.int .i64)) (.t (.p2 .d9 .d9)) (.k (.i (.ofNat 0)))), none⟩,
  ⟨some (.p2 .d9 .d4), (.mv (.t (.p2 .d9 .d10))), none⟩]) (.cond (.t (.p2 .d9 .d4)) (.seq (.dreg [
  ⟨0, ⟨some (.p2 .d9 .d11), (.mv (.t (.p2 .d0 .d0))), none⟩, .pur, 0⟩,
  ⟨1, ⟨some (.p2 .d9 .d12), (.nilc (.t (.p2 .d9 .d11))), none⟩, .pur, 0⟩,
  ⟨2, ⟨some (.p2 .d9 .d13), (.fa (.t (.p2 .d9 .d12)) 2), none⟩, .pur, 0⟩,
  ⟨3, ⟨some (.p2 .d9 .d14), (.ld1 (.t (.p2 .d9 .d13))), none⟩, .rd, 0⟩,
  ⟨4, ⟨some (.p2 .d9 .d15), (.mv (.t (.p2 .d0 .d4))), none⟩, .pur, 0⟩,
  ⟨5, ⟨some (.p2 .d10 .d0), (.ia 1 (.t (.p2 .d9 .d14)) (.t (.p2 .d9 .d15))), none⟩, .pur, 0⟩,
  ⟨6, ⟨some (.p2 .d10 .d1), (.ld1 (.t (.p2 .d10 .d0))), none⟩, .rd, 0⟩,
  ⟨7, ⟨some (.p2 .d10 .d2), (.fa (.t (.p2 .d0 .d7)) 5), none⟩, .pur, 0⟩,
  ⟨8, ⟨some (.p2 .d10 .d3), (.ld1 (.t (.p2 .d10 .d2))), none⟩, .rd, 0⟩,
  ⟨9, ⟨some (.p2 .d10 .d4), (.ia 6 (.t (.p2 .d10 .d3)) (.k (.i (.ofNat 0)))), none⟩, .pur, 0⟩,
  ⟨10, ⟨some (.p2 .d10 .d5), (.fa (.t (.p2 .d10 .d4)) 5), none⟩, .pur, 0⟩,
  ⟨11, ⟨some (.p2 .d10 .d6), (.ld1 (.t (.p2 .d10 .d5))), none⟩, .rd, 0⟩,
  ⟨12, ⟨some (.p2 .d10 .d7), (.ia 6 (.t (.p2 .d10 .d6)) (.k (.i (.ofNat 0)))), none⟩, .pur, 0⟩,
  ⟨13, ⟨some (.p2 .d10 .d8), (.fa (.t (.p2 .d10 .d7)) 4), none⟩, .pur, 0⟩,
  ⟨14, ⟨some (.p2 .d10 .d9), (.ld1 (.t (.p2 .d10 .d8))), none⟩, .rd, 0⟩,
  ⟨15, ⟨some (.p2 .d10 .d10), (.call ⟨66, .d0, .d4, .d2⟩ [(.t (.p2 .d10 .d1)), (.t (.p2 .d10 .d9))]), none⟩, .ev, 0⟩,
  ⟨16, ⟨some (.p2 .d0 .d11), (.mv (.t (.p2 .d10 .d10))), none⟩, .pur, 0⟩]) (.dreg [
  ⟨0, ⟨some (.p2 .d10 .d11), (.mv (.t (.p2 .d0 .d2))), none⟩, .pur, 0⟩,
  ⟨1, ⟨some (.p2 .d10 .d12), (.mv (.t (.p2 .d0 .d11))), none⟩, .pur, 0⟩,
  ⟨2, ⟨some (.p2 .d10 .d13), (.mv (.t (.p2 .d0 .d2))), none⟩, .pur, 0⟩,
  ⟨3, ⟨some (.p2 .d10 .d14), (.mv (.t (.p2 .d0 .d11))), none⟩, .pur, 0⟩,
  ⟨4, ⟨some (.p2 .d10 .d15), (.lkp (.cell .str) .nils (.t (.p2 .d10 .d13)) (.t (.p2 .d10 .d14)) false), none⟩, .rd, 2⟩,
  ⟨5, ⟨some (.p2 .d11 .d0), (.mv (.t (.p2 .d0 .d0))), none⟩, .pur, 0⟩,
  ⟨6, ⟨some (.p2 .d11 .d1), (.mv (.t (.p2 .d0 .d4))), none⟩, .pur, 0⟩,
  ⟨7, ⟨some (.p2 .d11 .d2), (.ldn 6 (.t (.p2 .d0 .d7))), none⟩, .rd, 0⟩,
  ⟨8, ⟨some (.p2 .d11 .d3), (.call ⟨65, .d0, .d4, .d1⟩ [(.t (.p2 .d11 .d0)), (.k (.i (.ofNat 4))), (.t (.p2 .d11 .d1)), (.t (.p2 .d11 .d2))]), none⟩, .ev, 0⟩,
  ⟨9, ⟨some (.p2 .d11 .d4), (.bslice 35 5 1 [(.i (.ofNat 0)), (.str 0 0), (.i (.ofNat 0)), (.i (.ofNat 0)), (.str 0 0)] [(0, (.t (.p2 .d11 .d3)))]), none⟩, .ev, 1⟩,
  ⟨10, ⟨some (.p2 .d11 .d5), (.append 35 5 56 (.t (.p2 .d10 .d15)) (.t (.p2 .d11 .d4))), none⟩, .ev, 2⟩,
  ⟨11, ⟨none, (.mupd (.cell .str) (.t (.p2 .d10 .d11)) (.t (.p2 .d10 .d12)) (.t (.p2 .d11 .d5))), none⟩, .ev, 3⟩])) (.dreg [
  ⟨0, ⟨some (.p2 .d2 .d8), (.mv (.t (.p2 .d0 .d0))), none⟩, .pur, 0⟩,
  ⟨1, ⟨some (.p2 .d2 .d9), (.nilc (.t (.p2 .d2 .d8))), none⟩, .pur, 0⟩,
  ⟨2, ⟨some (.p2 .d2 .d10), (.fa (.t (.p2 .d2 .d9)) 7), none⟩, .pur, 0⟩,
  ⟨3, ⟨some (.p2 .d2 .d11), (.ld1 (.t (.p2 .d2 .d10))), none⟩, .rd, 3⟩,
  ⟨4, ⟨some (.p2 .d2 .d12), (.mv (.t (.p2 .d0 .d0))), none⟩, .pur, 0⟩,
  ⟨5, ⟨some (.p2 .d2 .d13), (.nilc (.t (.p2 .d2 .d12))), none⟩, .pur, 0⟩,
  ⟨6, ⟨some (.p2 .d2 .d14), (.fa (.t (.p2 .d2 .d13)) 2), none⟩, .pur, 0⟩,
  ⟨7, ⟨some (.p2 .d2 .d15), (.ld1 (.t (.p2 .d2 .d14))), none⟩, .rd, 3⟩,
  ⟨8, ⟨some (.p2 .d3 .d0), (.mv (.t (.p2 .d0 .d4))), none⟩, .pur, 0⟩,
  ⟨9, ⟨some (.p2 .d3 .d1), (.ia 1 (.t (.p2 .d2 .d15)) (.t (.p2 .d3 .d0))), none⟩, .pur, 0⟩,
  ⟨10, ⟨some (.p2 .d3 .d2), (.ld1 (.t (.p2 .d3 .d1))), none⟩, .rd, 3⟩,
  ⟨11, ⟨some (.p2 .d3 .d3), (.mv (.t (.p2 .d0 .d0))), none⟩, .pur, 0⟩,
  ⟨12, ⟨some (.p2 .d3 .d4), (.nilc (.t (.p2 .d3 .d3))), none⟩, .pur, 0⟩,
  ⟨13, ⟨some (.p2 .d3 .d5), (.fa (.t (.p2 .d3 .d4)) 7), none⟩, .pur, 0⟩,
  ⟨14, ⟨some (.p2 .d3 .d6), (.ld1 (.t (.p2 .d3 .d5))), none⟩, .rd, 2⟩,
  ⟨15, ⟨some (.p2 .d3 .d7), (.mv (.t (.p2 .d0 .d0))), none⟩, .pur, 0⟩,
  ⟨16, ⟨some (.p2 .d3 .d8), (.nilc (.t (.p2 .d3 .d7))), none⟩, .pur, 0⟩,
  ⟨17, ⟨some (.p2 .d3 .d9), (.fa (.t (.p2 .d3 .d8)) 2), none⟩, .pur, 0⟩,
  ⟨18, ⟨some (.p2 .d3 .d10), (.ld1 (.t (.p2 .d3 .d9))), none⟩, .rd, 2⟩,
  ⟨19, ⟨some (.p2 .d3 .d11), (.mv (.t (.p2 .d0 .d4))), none⟩, .pur, 0⟩,
  ⟨20, ⟨some (.p2 .d3 .d12), (.ia 1 (.t (.p2 .d3 .d10)) (.t (.p2 .d3 .d11))), none⟩, .pur, 0⟩,
  ⟨21, ⟨some (.p2 .d3 .d13), (.ld1 (.t (.p2 .d3 .d12))), none⟩, .rd, 2⟩,
  ⟨22, ⟨some (.p2 .d3 .d14), (.lkp (.cell .str) .nils (.t (.p2 .d3 .d6)) (.t (.p2 .d3 .d13)) false), none⟩, .rd, 2⟩,
  ⟨23, ⟨some (.p2 .d3 .d15), (.mv (.t (.p2 .d0 .d0))), none⟩, .pur, 0⟩,
  ⟨24, ⟨some (.p2 .d4 .d0), (.mv (.t (.p2 .d0 .d4))), none⟩, .pur, 0⟩,
  ⟨25, ⟨some (.p2 .d4 .d1), (.ldn 6 (.t (.p2 .d0 .d7))), none⟩, .rd, 0⟩,
  ⟨26, ⟨some (.p2 .d4 .d2), (.call ⟨65, .d0, .d4, .d1⟩ [(.t (.p2 .d3 .d15)), (.k (.i (.ofNat 3))), (.t (.p2 .d4 .d0)), (.t (.p2 .d4 .d1))]), none⟩, .ev, 0⟩,
  ⟨27, ⟨some (.p2 .d4 .d3), (.bslice 35 5 1 [(.i (.ofNat 0)), (.str 0 0), (.i (.ofNat 0)), (.i (.ofNat 0)), (.str 0 0)] [(0, (.t (.p2 .d4 .d2)))]), none⟩, .ev, 1⟩,
  ⟨28, ⟨some (.p2 .d4 .d4), (.append 35 5 56 (.t (.p2 .d3 .d14)) (.t (.p2 .d4 .d3))), none⟩, .ev, 2⟩,
  ⟨29, ⟨none, (.mupd (.cell .str) (.t (.p2 .d2 .d11)) (.t (.p2 .d3 .d2)) (.t (.p2 .d4 .d4))), none⟩, .ev, 3⟩])))))))))) (.reg [
  ⟨some (.p2 .d11 .d6), (.add (.t (.p2 .d2 .d4)) (.k (.i (.ofNat 1)))), none⟩,
  ⟨some (.p2 .d2 .d4), (.mv (.t (.p2 .d11 .d6))), none⟩]))))))))) (.reg [
  ⟨some (.p2 .d11 .d7), (.add (.t (.p2 .d1 .d12)) (.k (.i (.ofNat 1)))), none⟩,
  ⟨some (.p2 .d1 .d12), (.mv (.t (.p2 .d11 .d7))), none⟩]))))))) (.seq (.seq (.reg [
  ⟨some (.p2 .d11 .d8), (.mv (.t (.p2 .d0 .d2))), none⟩,
  ⟨some (.p2 .d11 .d9), (.rng (.cell .str) (.t (.p2 .d11 .d8))), none⟩]) (.block 7 (.loop (.seq (.reg [
  ⟨some (.p2 .d11 .d10), (.nxt (.t (.p2 .d11 .d9)) false), none⟩,
  ⟨some (.p2 .d11 .d11), (.ext (.t (.p2 .d11 .d10)) 0), none⟩]) (.seq (.cond (.t (.p2 .d11 .d11)) .skip (.exit 7)) (.block 8 (.seq (.reg [
  ⟨some (.p2 .d11 .d12), (.entry (.t (.p2 .d11 .d9))), none⟩,
  ⟨some (.p2 .d11 .d13), (.ext (.t (.p2 .d11 .d12)) 0), none⟩,
  ⟨some (.p2 .d11 .d14), (.ext (.t (.p2 .d11 .d12)) 1), none⟩,
  ⟨some (.p2 .d0 .d12), (.mv (.t (.p2 .d11 .d13))), none⟩,
  ⟨some (.p2 .d0 .d13), (.mv (.t (.p2 .d11 .d14))), none⟩]) (.dreg [
  ⟨0, ⟨some (.p2 .d11 .d15), (.mv (.t (.p2 .d0 .d0))), none⟩, .pur, 0⟩,
  ⟨1, ⟨some (.p2 .d12 .d0), (.nilc (.t (.p2 .d11 .d15))), none⟩, .pur, 0⟩,
  ⟨2, ⟨some (.p2 .d12 .d1), (.fa (.t (.p2 .d12 .d0)) 8), none⟩, .pur, 0⟩,
  ⟨3, ⟨some (.p2 .d12 .d2), (.ld1 (.t (.p2 .d12 .d1))), none⟩, .rd, 1⟩,
  ⟨4, ⟨some (.p2 .d12 .d3), (.mv (.t (.p2 .d0 .d12))), none⟩, .pur, 0⟩,
  ⟨5, ⟨some (.p2 .d12 .d4), (.mv (.t (.p2 .d0 .d0))), none⟩, .pur, 0⟩,
  ⟨6, ⟨some (.p2 .d12 .d5), (.nilc (.t (.p2 .d12 .d4))), none⟩, .pur, 0⟩,
  ⟨7, ⟨some (.p2 .d12 .d6), (.fa (.t (.p2 .d12 .d5)) 8), none⟩, .pur, 0⟩,
  ⟨8, ⟨some (.p2 .d12 .d7), (.ld1 (.t (.p2 .d12 .d6))), none⟩, .rd, 0⟩,
  ⟨9, ⟨some (.p2 .d12 .d8), (.mv (.t (.p2 .d0 .d12))), none⟩, .pur, 0⟩,
  ⟨10, ⟨some (.p2 .d12 .d9), (.lkp (.cell .str) .nils (.t (.p2 .d12 .d7)) (.t (.p2 .d12 .d8)) false), none⟩, .rd, 0⟩,
  ⟨11, ⟨some (.p2 .d12 .d10), (.mv (.t (.p2 .d0 .d13))), none⟩, .pur, 0⟩,
  ⟨12, ⟨some (.p2 .d12 .d11), (.append 35 5 56 (.t (.p2 .d12 .d9)) (.t (.p2 .d12 .d10))), none⟩, .ev, 0⟩,
  ⟨13, ⟨none, (.mupd (.cell .str) (.t (.p2 .d12 .d2)) (.t (.p2 .d12 .d3)) (.t (.p2 .d12 .d11))), none⟩, .ev, 1⟩])))))))) (.seq (.seq (.reg [
  ⟨some (.p2 .d12 .d12), (.mv (.t (.p2 .d0 .d0))), none⟩,
  ⟨some (.p2 .d12 .d13), (.nilc (.t (.p2 .d12 .d12))), none⟩,
  ⟨some (.p2 .d12 .d14), (.fa (.t (.p2 .d12 .d13)) 7), none⟩,
  ⟨some (.p2 .d12 .d15), (.ld1 (.t (.p2 .d12 .d14))), none⟩,
  ⟨some (.p2 .d13 .d0), (.rng (.cell .str) (.t (.p2 .d12 .d15))), none⟩]) (.block 9 (.loop (.seq (.reg [
  ⟨some (.p2 .d13 .d1), (.nxt (.t (.p2 .d13 .d0)) false), none⟩,
  ⟨some (.p2 .d13 .d2), (.ext (.t (.p2 .d13 .d1)) 0), none⟩]) (.seq (.cond (.t (.p2 .d13 .d2)) .skip (.exit 9)) (.block 10 (.seq (.reg [
  ⟨some (.p2 .d13 .d3), (.entry (.t (.p2 .d13 .d0))), none⟩,
  ⟨some (.p2 .d13 .d4), (.ext (.t (.p2 .d13 .d3)) 1), none⟩,
  ⟨some (.p2 .d0 .d15), (.mv (.t (.p2 .d13 .d4))), none⟩]) (.reg [
  ⟨some (.p2 .d13 .d5), (.mv (.t (.p2 .d0 .d0))), none⟩,
  ⟨some (.p2 .d13 .d6), (.mv (.t (.p2 .d0 .d15))), none⟩,
  ⟨some (.p2 .d13 .d7), (.call ⟨67, .d0, .d4, .d3⟩ [(.t (.p2 .d13 .d5)), (.t (.p2 .d13 .d6))]), none⟩])))))))) (.seq (.seq (.reg [
  ⟨some (.p2 .d13 .d8), (.mv (.t (.p2 .d0 .d0))), none⟩,
  ⟨some (.p2 .d13 .d9), (.nilc (.t (.p2 .d13 .d8))), none⟩,
  ⟨some (.p2 .d13 .d10), (.fa (.t (.p2 .d13 .d9)) 8), none⟩,
  ⟨some (.p2 .d13 .d11), (.ld1 (.t (.p2 .d13 .d10))), none⟩,
  ⟨some (.p2 .d13 .d12), (.rng (.cell .str) (.t (.p2 .d13 .d11))), none⟩]) (.block 11 (.loop (.seq (.reg [
  ⟨some (.p2 .d13 .d13), (.nxt (.t (.p2 .d13 .d12)) false), none⟩,
  ⟨some (.p2 .d13 .d14), (.ext (.t (.p2 .d13 .d13)) 0), none⟩]) (.seq (.cond (.t (.p2 .d13 .d14)) .skip (.exit 11)) (.block 12 (.seq (.reg [
  ⟨some (.p2 .d13 .d15), (.entry (.t (.p2 .d13 .d12))), none⟩,
  ⟨some (.p2 .d14 .d0), (.ext (.t (.p2 .d13 .d15)) 1), none⟩,
  ⟨some (.p2 .d1 .d1), (.mv (.t (.p2 .d14 .d0))), none⟩]) (.reg [
  ⟨some (.p2 .d14 .d1), (.mv (.t (.p2 .d0 .d0))), none⟩,
  ⟨some (.p2 .d14 .d2), (.mv (.t (.p2 .d1 .d1))), none⟩,
  ⟨some (.p2 .d14 .d3), (.call ⟨67, .d0, .d4, .d3⟩ [(.t (.p2 .d14 .d1)), (.t (.p2 .d14 .d2))]), none⟩])))))))) (.seq (.reg [
  ⟨some (.p2 .d14 .d4), (.mv (.t (.p2 .d0 .d3))), none⟩,
  ⟨some (.p2 .d14 .d5), (.len 1 (.t (.p2 .d14 .d4))), none⟩,
  ⟨some (.p2 .d14 .d6), (.mv (.k (.i (.ofNat 0)))), none⟩]) (.block 13 (.loop (.seq (.reg [
  ⟨some (.p2 .d14 .d7), (.lss (.t (.p2 .d14 .d6)) (.t (.p2 .d14 .d5))), none⟩]) (.seq (.cond (.t (.p2 .d14 .d7)) .skip (.exit 13)) (.seq (.block 14 (.seq (.reg [
  ⟨some (.p2 .d14 .d8), (.ia 5 (.t (.p2 .d14 .d4)) (.t (.p2 .d14 .d6))), none⟩,
  ⟨some (.p2 .d14 .d9), (.ldn 5 (.t (.p2 .d14 .d8))), none⟩,
  ⟨some (.p2 .d1 .d3), (.alloc 35 [(.i (.ofNat 0)), (.str 0 0), (.i (.ofNat 0)), (.i (.ofNat 0)), (.str 0 0)]), none⟩,
  ⟨none, (.st 5 (.t (.p2 .d1 .d3)) (.t (.p2 .d14 .d9))), none⟩]) (.seq (.dreg [
  ⟨0, ⟨some (.p2 .d14 .d11), (.mv (.t (.p2 .d0 .d0))), none⟩, .pur, 0⟩,
  ⟨1, ⟨some (.p2 .d14 .d12), (.mv (.t (.p2 .d0 .d0))), none⟩, .pur, 0⟩,
  ⟨2, ⟨some (.p2 .d14 .d13), (.nilc (.t (.p2 .d14 .d12))), none⟩, .pur, 0⟩,
  ⟨3, ⟨some (.p2 .d14 .d14), (.fa (.t (.p2 .d14 .d13)) 2), none⟩, .pur, 0⟩,
  ⟨4, ⟨some (.p2 .d14 .d15), (.ld1 (.t (.p2 .d14 .d14))), none⟩, .rd, 0⟩,
  ⟨5, ⟨some (.p2 .d15 .d0), (.fa (.t (.p2 .d1 .d3)) 2), none⟩, .pur, 0⟩,
  ⟨6, ⟨some (.p2 .d15 .d1), (.ld1 (.t (.p2 .d15 .d0))), none⟩, .rd, 0⟩,
  ⟨7, ⟨some (.p2 .d15 .d2), (.ia 1 (.t (.p2 .d14 .d15)) (.t (.p2 .d15 .d1))), none⟩, .pur, 0⟩,
  ⟨8, ⟨some (.p2 .d15 .d3), (.ld1 (.t (.p2 .d15 .d2))), none⟩, .rd, 0⟩,
  ⟨9, ⟨some (.p2 .d15 .d4), (.fa (.t (.p2 .d1 .d3)) 1), none⟩, .pur, 0⟩,
  ⟨10, ⟨some (.p2 .d15 .d5), (.ld1 (.t (.p2 .d15 .d4))), none⟩, .rd, 0⟩,
  ⟨11, ⟨some (.p2 .d15 .d6), (.call ⟨7, .d0, .d0, .d7⟩ [(.t (.p2 .d14 .d11)), (.t (.p2 .d15 .d3)), (.t (.p2 .d15 .d5))]), none⟩, .ev, 0⟩,
  ⟨12, ⟨some (.p2 .d14 .d10), (.mv (.t (.p2 .d15 .d6))), none⟩, .pur, 0⟩,
  ⟨13, ⟨some (.p2 .d15 .d7), (.ext (.t (.p2 .d14 .d10)) 0), none⟩, .pur, 0⟩,
  ⟨14, ⟨some (.p2 .d15 .d8), (.ext (.t (.p2 .d14 .d10)) 1), none⟩, .pur, 0⟩,
  ⟨15, ⟨some (.p2 .d1 .d4), (.alloc 35 [(.i (.ofNat 0)), (.str 0 0), (.i (.ofNat 0)), (.i (.ofNat 0)), (.str 0 0)]), none⟩, .late, 1⟩,
  ⟨16, ⟨none, (.st 5 (.t (.p2 .d1 .d4)) (.t (.p2 .d15 .d7))), none⟩, .ev, 2⟩,
  ⟨17, ⟨some (.p2 .d1 .d5), (.mv (.t (.p2 .d15 .d8))), none⟩, .pur, 0⟩]) (.seq (.reg [
  ⟨some (.p2 .d15 .d9), (.mv (.t (.p2 .d1 .d5))), none⟩]) (.cond (.t (.p2 .d15 .d9)) (.reg [
  ⟨some (.p2 .d15 .d10), (.mv (.t (.p2 .d0 .d0))), none⟩,
  ⟨some (.p2 .d15 .d11), (.fa (.t (.p2 .d1 .d3)) 1), none⟩,
  ⟨some (.p2 .d15 .d12), (.ld1 (.t (.p2 .d15 .d11))), none⟩,
  ⟨some (.p2 .d15 .d13), (.fa (.t (.p2 .d1 .d3)) 2), none⟩,
  ⟨some (.p2 .d15 .d14), (.ld1 (.t (.p2 .d15 .d13))), none⟩,
  ⟨some (.p2 .d15 .d15), (.fa (.t (.p2 .d1 .d3)) 3), none⟩,
  ⟨some (.p3 .d0 .d0), (.ld1 (.t (.p2 .d15 .d15))), none⟩,
  ⟨some (.p3 .d0 .d1), (.build [(.i (.ofNat 0)), (.str 0 0), (.i (.ofNat 0)), (.i (.ofNat 0)), (.str 0 0)] [(1, 1, (.t (.p2 .d15 .d12))), (2, 1, (.t (.p2 .d15 .d14))), (3, 1, (.t (.p3 .d0 .d0)))]), none⟩,
  ⟨some (.p3 .d0 .d2), (.fa (.t (.p2 .d1 .d3)) 1), none⟩,
  ⟨some (.p3 .d0 .d3), (.ld1 (.t (.p3 .d0 .d2))), none⟩,
  ⟨some (.p3 .d0 .d4), (.fa (.t (.p2 .d1 .d4)) 2), none⟩,
  ⟨some (.p3 .d0 .d5), (.ld1 (.t (.p3 .d0 .d4))), none⟩,
  ⟨some (.p3 .d0 .d6), (.fa (.t (.p2 .d1 .d4)) 3), none⟩,
  ⟨some (.p3 .d0 .d7), (.ld1 (.t (.p3 .d0 .d6))), none⟩,
  ⟨some (.p3 .d0 .d8), (.build [(.i (.ofNat 0)), (.str 0 0), (.i (.ofNat 0)), (.i (.ofNat 0)), (.str 0 0)] [(1, 1, (.t (.p3 .d0 .d3))), (2, 1, (.t (.p3 .d0 .d5))), (3, 1, (.t (.p3 .d0 .d7)))]), none⟩,
  ⟨some (.p3 .d0 .d9), (.bslice 35 5 2 [(.i (.ofNat 0)), (.str 0 0), (.i (.ofNat 0)), (.i (.ofNat 0)), (.str 0 0)] [(0, (.t (.p3 .d0 .d1))), (1, (.t (.p3 .d0 .d8)))]), none⟩,
  ⟨some (.p3 .d0 .d10), (.call ⟨67, .d0, .d4, .d3⟩ [(.t (.p2 .d15 .d10)), (.t (.p3 .d0 .d9))]), none⟩]) .skip))))) (.reg [
  ⟨some (.p3 .d0 .d11), (.add (.t (.p2 .d14 .d6)) (.k (.i (.ofNat 1)))), none⟩,
  ⟨some (.p2 .d14 .d6), (.mv (.t (.p3 .d0 .d11))), none⟩]))))))))))))), []⟩
def cf38 : CF := ⟨38, true, (.seq (.reg [
  ⟨some (.p2 .d0 .d1), (.box 26 1 (.t (.p2 .d0 .d0))), none⟩]) (.seq (.reg [
  ⟨some (.p2 .d0 .d5), (.ld1 (.t (.p2 .d0 .d1))), none⟩,
  ⟨some (.p2 .d0 .d6), (.nilc (.t (.p2 .d0 .d5))), none⟩,
  ⟨some (.p2 .d0 .d7), (.fa (.t (.p2 .d0 .d6)) 1), none⟩,
  ⟨some (.p2 .d0 .d8), (.ld1 (.t (.p2 .d0 .d7))), none⟩,
  ⟨some (.p2 .d0 .d9), (.len 1 (.t (.p2 .d0 .d8))), none⟩,
  ⟨some (.p2 .d0 .d10), (.mv (.k (.i (.ofNat 0)))), none⟩]) (.block 0 (.loop (.seq (.reg [
  ⟨some (.p2 .d0 .d11), (.lss (.t (.p2 .d0 .d10)) (.t (.p2 .d0 .d9))), none⟩]) (.seq (.cond (.t (.p2 .d0 .d11)) .skip (.exit 0)) (.seq (.block 1 (.seq (.reg [
  ⟨some (.p2 .d0 .d12), (.mv (.t (.p2 .d0 .d10))), none⟩,
  ⟨some (.p2 .d0 .d13), (.ia 6 (.t (.p2 .d0 .d8)) (.t (.p2 .d0 .d10))), none⟩,
  ⟨some (.p2 .d0 .d14), (.ldn 6 (.t (.p2 .d0 .d13))), none⟩,
  ⟨some (.p2 .d0 .d2), (.alloc 3 [(.i (.ofNat 0))]), none⟩,
  ⟨some (.p2 .d0 .d3), (.alloc 43 [(.i (.ofNat 0)), (.i (.ofNat 0)), (.i (.ofNat 0)), (.i (.ofNat 0)), (.str 0 0), .nils]), none⟩,
  ⟨none, (.st 1 (.t (.p2 .d0 .d2)) (.t (.p2 .d0 .d12))), none⟩,
  ⟨none, (.st 6 (.t (.p2 .d0 .d3)) (.t (.p2 .d0 .d14))), none⟩]) (.seq (.reg [
  ⟨some (.p2 .d0 .d4), (.alloc 111 [.nilf]), none⟩]) (.seq (.reg [
  ⟨some (.p2 .d0 .d15), (.mkf ⟨68, .d0, .d4, .d4⟩ [] [(.t (.p2 .d0 .d4)), (.t (.p2 .d0 .d1)), (.t (.p2 .d0 .d2))]), none⟩,
  ⟨none, (.st 1 (.t (.p2 .d0 .d4)) (.t (.p2 .d0 .d15))), none⟩]) (.reg [
  ⟨some (.p2 .d1 .d0), (.ld1 (.t (.p2 .d0 .d4))), none⟩,
  ⟨some (.p2 .d1 .d1), (.ldn 6 (.t (.p2 .d0 .d3))), none⟩,
  ⟨some (.p2 .d1 .d2), (.callv (.t (.p2 .d1 .d0)) [(.t (.p2 .d1 .d1)), (.k .nilp), (.k .nilm)]), none⟩]))))) (.reg [
  ⟨some (.p2 .d1 .d3), (.add (.t (.p2 .d0 .d10)) (.k (.i (.ofNat 1)))), none⟩,
  ⟨some (.p2 .d0 .d10), (.mv (.t (.p2 .d1 .d3))), none⟩])))))))), []⟩
def cf39 : CF := ⟨39, true, (.seq (.reg [
  ⟨some (.p2 .d0 .d4), (.mv (.k (.i (.ofNat 0)))), none⟩]) (.seq (.seq (.reg [
  ⟨some (.p2 .d0 .d6), (.mv (.t (.p2 .d0 .d0))), none⟩,
  ⟨some (.p2 .d0 .d7), (.len 1 (.t (.p2 .d0 .d6))), none⟩,
  ⟨some (.p2 .d0 .d8), (.mv (.k (.i (.ofNat 0)))), none⟩]) (.block 0 (.loop (.seq (.reg [
  ⟨some (.p2 .d0 .d9), (.lss (.t (.p2 .d0 .d8)) (.t (.p2 .d0 .d7))), none⟩]) (.seq (.cond (.t (.p2 .d0 .d9)) .skip (.exit 0)) (.seq (.block 1 (.seq (.reg [
  ⟨some (.p2 .d0 .d10), (.mv (.t (.p2 .d0 .d8))), none⟩,
  ⟨some (.p2 .d0 .d5), (.mv (.t (.p2 .d0 .d10))), none⟩]) (.seq (.reg [
  ⟨some (.p2 .d0 .d11), (.mv (.t (.p2 .d0 .d1))), none⟩,
  ⟨some (.p2 .d0 .d12), (.mv (.t (.p2 .d0 .d0))), none⟩,
  ⟨some (.p2 .d0 .d13), (.mv (.t (.p2 .d0 .d5))), none⟩,
  ⟨some (.p2 .d0 .d14), (.ia 5 (.t (.p2 .d0 .d12)) (.t (.p2 .d0 .d13))), none⟩,
  ⟨some (.p2 .d0 .d15), (.ldn 5 (.t (.p2 .d0 .d14))), none⟩,
  ⟨some (.p2 .d1 .d0), (.callv (.t (.p2 .d0 .d11)) [(.t (.p2 .d0 .d15))]), none⟩]) (.cond (.t (.p2 .d1 .d0)) (.seq (.reg [
  ⟨some (.p2 .d1 .d1), (.mv (.t (.p2 .d0 .d5))), none⟩,
  ⟨some (.p2 .d0 .d4), (.mv (.t (.p2 .d1 .d1))), none⟩]) .ret) .skip)))) (.reg [
  ⟨some (.p2 .d1 .d2), (.add (.t (.p2 .d0 .d8)) (.k (.i (.ofNat 1)))), none⟩,
  ⟨some (.p2 .d0 .d8), (.mv (.t (.p2 .d1 .d2))), none⟩]))))))) (.seq (.reg [
  ⟨some (.p2 .d0 .d4), (.mv (.k (.i (.negSucc 0)))), none⟩]) .ret))), [.tmp (.p2 .d0 .d4)]⟩
def cf40 : CF := ⟨40, true, (.seq (.reg [
  ⟨some (.p2 .d0 .d2), (.box 35 5 (.t (.p2 .d0 .d0))), none⟩,
  ⟨some (.p2 .d0 .d3), (.mv (.k (.bool false))), none⟩]) (.seq (.reg [
  ⟨some (.p2 .d0 .d4), (.fa (.t (.p2 .d0 .d2)) 1), none⟩,
  ⟨some (.p2 .d0 .d5), (.ld1 (.t (.p2 .d0 .d4))), none⟩,
  ⟨some (.p2 .d0 .d6), (.ld1 (.t (.p2 .d0 .d1))), none⟩,
  ⟨some (.p2 .d0 .d7), (.eql (.cell .str) (.t (.p2 .d0 .d5)) (.t (.p2 .d0 .d6))), none⟩,
  ⟨some (.p2 .d0 .d3), (.mv (.t (.p2 .d0 .d7))), none⟩]) .ret)), [.tmp (.p2 .d0 .d3)]⟩
def cf41 : CF := ⟨41, true, (.seq (.reg [
  ⟨some (.p2 .d0 .d2), (.mv (.k .nils)), none⟩]) (.seq (.seq (.reg [
  ⟨some (.p2 .d0 .d3), (.mv (.t (.p2 .d0 .d0))), none⟩,
  ⟨some (.p2 .d0 .d4), (.eql .slice (.t (.p2 .d0 .d3)) (.k .nils)), none⟩]) (.cond (.t (.p2 .d0 .d4)) (.seq (.reg [
  ⟨some (.p2 .d0 .d2), (.mv (.k .nils)), none⟩]) .ret) .skip)) (.seq (.reg [
  ⟨some (.p2 .d0 .d5), (.bslice 35 5 0 [(.i (.ofNat 0)), (.str 0 0), (.i (.ofNat 0)), (.i (.ofNat 0)), (.str 0 0)] []), none⟩,
  ⟨some (.p2 .d0 .d6), (.mv (.t (.p2 .d0 .d0))), none⟩,
  ⟨some (.p2 .d0 .d7), (.append 35 5 56 (.t (.p2 .d0 .d5)) (.t (.p2 .d0 .d6))), none⟩,
  ⟨some (.p2 .d0 .d2), (.mv (.t (.p2 .d0 .d7))), none⟩]) .ret))), [.tmp (.p2 .d0 .d2)]⟩
def cf42 : CF := ⟨42, true, (.seq (.reg [
  ⟨some (.p2 .d0 .d4), (.mv (.k (.str 0 0))), none⟩,
  ⟨some (.p2 .d0 .d5), (.mv (.k (.bool false))), none⟩]) (.seq (.seq (.reg [
  ⟨some (.p2 .d0 .d6), (.mv (.t (.p2 .d0 .d0))), none⟩,
  ⟨some (.p2 .d0 .d7), (.mv (.t (.p2 .d0 .d1))), none⟩,
  ⟨some (.p2 .d0 .d8), (.call ⟨73, .d0, .d4, .d9⟩ [(.t (.p2 .d0 .d6)), (.t (.p2 .d0 .d7))]), none⟩,
  ⟨some (.p2 .d0 .d9), (.not (.t (.p2 .d0 .d8))), none⟩]) (.cond (.t (.p2 .d0 .d9)) (.seq (.reg [
  ⟨some (.p2 .d0 .d10), (.mv (.t (.p2 .d0 .d0))), none⟩,
  ⟨some (.p2 .d0 .d4), (.mv (.t (.p2 .d0 .d10))), none⟩,
  ⟨some (.p2 .d0 .d5), (.mv (.k (.bool false))), none⟩]) .ret) .skip)) (.seq (.reg [
  ⟨some (.p2 .d0 .d11), (.mv (.t (.p2 .d0 .d0))), none⟩,
  ⟨some (.p2 .d0 .d12), (.mv (.t (.p2 .d0 .d1))), none⟩,
  ⟨some (.p2 .d0 .d13), (.len 0 (.t (.p2 .d0 .d12))), none⟩,
  ⟨some (.p2 .d0 .d14), (.slStr (.t (.p2 .d0 .d11)) (some (.t (.p2 .d0 .d13))) none), none⟩,
  ⟨some (.p2 .d0 .d4), (.mv (.t (.p2 .d0 .d14))), none⟩,
  ⟨some (.p2 .d0 .d5), (.mv (.k (.bool true))), none⟩]) .ret))), [.tmp (.p2 .d0 .d4), .tmp (.p2 .d0 .d5)]⟩
def cf43 : CF := ⟨43, true, (.seq (.reg [
  ⟨some (.p2 .d0 .d4), (.mv (.k (.str 0 0))), none⟩,
  ⟨some (.p2 .d0 .d5), (.mv (.k (.str 0 0))), none⟩,
  ⟨some (.p2 .d0 .d6), (.mv (.k (.bool false))), none⟩]) (.seq (.seq (.reg [
  ⟨some (.p2 .d0 .d8), (.mv (.t (.p2 .d0 .d0))), none⟩,
  ⟨some (.p2 .d0 .d9), (.mv (.t (.p2 .d0 .d1))), none⟩,
  ⟨some (.p2 .d0 .d10), (.call ⟨74, .d0, .d4, .d10⟩ [(.t (.p2 .d0 .d8)), (.t (.p2 .d0 .d9))]), none⟩,
  ⟨some (.p2 .d0 .d7), (.mv (.t (.p2 .d0 .d10))), none⟩]) (.seq (.reg [
  ⟨some (.p2 .d0 .d11), (.mv (.t (.p2 .d0 .d7))), none⟩,
  ⟨some (.p2 .d0 .d12), (.geq (.t (.p2 .d0 .d11)) (.k (.i (.ofNat 0)))), none⟩]) (.cond (.t (.p2 .d0 .d12)) (.seq (.dreg [
  ⟨0, ⟨some (.p2 .d0 .d13), (.mv (.t (.p2 .d0 .d0))), none⟩, .pur, 0⟩,
  ⟨1, ⟨some (.p2 .d0 .d14), (.mv (.t (.p2 .d0 .d7))), none⟩, .pur, 0⟩,
  ⟨2, ⟨some (.p2 .d0 .d15), (.slStr (.t (.p2 .d0 .d13)) none (some (.t (.p2 .d0 .d14)))), none⟩, .pur, 0⟩,
  ⟨3, ⟨some (.p2 .d1 .d0), (.mv (.t (.p2 .d0 .d0))), none⟩, .pur, 0⟩,
  ⟨4, ⟨some (.p2 .d1 .d1), (.mv (.t (.p2 .d0 .d7))), none⟩, .pur, 0⟩,
  ⟨5, ⟨some (.p2 .d1 .d2), (.mv (.t (.p2 .d0 .d1))), none⟩, .pur, 0⟩,
  ⟨6, ⟨some (.p2 .d1 .d3), (.len 0 (.t (.p2 .d1 .d2))), none⟩, .rd, 13⟩,
  ⟨7, ⟨some (.p2 .d1 .d4), (.add (.t (.p2 .d1 .d1)) (.t (.p2 .d1 .d3))), none⟩, .pur, 0⟩,
  ⟨8, ⟨some (.p2 .d1 .d5), (.slStr (.t (.p2 .d1 .d0)) (some (.t (.p2 .d1 .d4))) none), none⟩, .pur, 0⟩,
  ⟨9, ⟨some (.p2 .d0 .d4), (.mv (.t (.p2 .d0 .d15))), none⟩, .pur, 0⟩,
  ⟨10, ⟨some (.p2 .d0 .d5), (.mv (.t (.p2 .d1 .d5))), none⟩, .pur, 0⟩,
  ⟨11, ⟨some (.p2 .d0 .d6), (.mv (.k (.bool true))), none⟩, .pur, 0⟩]) .ret) .skip))) (.seq (.reg [
  ⟨some (.p2 .d1 .d6), (.mv (.t (.p2 .d0 .d0))), none⟩,
  ⟨some (.p2 .d0 .d4), (.mv (.t (.p2 .d1 .d6))), none⟩,
  ⟨some (.p2 .d0 .d5), (.mv (.k (.str 0 0))), none⟩,
  ⟨some (.p2 .d0 .d6), (.mv (.k (.bool false))), none⟩]) .ret))), [.tmp (.p2 .d0 .d4), .tmp (.p2 .d0 .d5), .tmp (.p2 .d0 .d6)]⟩
def cf44 : CF := ⟨44, true, (.seq (.reg [
  ⟨some (.p2 .d0 .d4), (.mv (.k (.str 0 0))), none⟩,
  ⟨some (.p2 .d0 .d5), (.mv (.k (.bool false))), none⟩]) (.seq (.seq (.reg [
  ⟨some (.p2 .d0 .d6), (.mv (.t (.p2 .d0 .d0))), none⟩,
  ⟨some (.p2 .d0 .d7), (.mv (.t (.p2 .d0 .d1))), none⟩,
  ⟨some (.p2 .d0 .d8), (.call ⟨75, .d0, .d4, .d11⟩ [(.t (.p2 .d0 .d6)), (.t (.p2 .d0 .d7))]), none⟩,
  ⟨some (.p2 .d0 .d9), (.not (.t (.p2 .d0 .d8))), none⟩]) (.cond (.t (.p2 .d0 .d9)) (.seq (.reg [
  ⟨some (.p2 .d0 .d10), (.mv (.t (.p2 .d0 .d0))), none⟩,
  ⟨some (.p2 .d0 .d4), (.mv (.t (.p2 .d0 .d10))), none⟩,
  ⟨some (.p2 .d0 .d5), (.mv (.k (.bool false))), none⟩]) .ret) .skip)) (.seq (.reg [
  ⟨some (.p2 .d0 .d11), (.mv (.t (.p2 .d0 .d0))), none⟩,
  ⟨some (.p2 .d0 .d12), (.mv (.t (.p2 .d0 .d0))), none⟩,
  ⟨some (.p2 .d0 .d13), (.len 0 (.t (.p2 .d0 .d12))), none⟩,
  ⟨some (.p2 .d0 .d14), (.mv (.t (.p2 .d0 .d1))), none⟩,
  ⟨some (.p2 .d0 .d15), (.len 0 (.t (.p2 .d0 .d14))), none⟩,
  ⟨some (.p2 .d1 .d0), (.sub (.t (.p2 .d0 .d13)) (.t (.p2 .d0 .d15))), none⟩,
  ⟨some (.p2 .d1 .d1), (.slStr (.t (.p2 .d0 .d11)) none (some (.t (.p2 .d1 .d0)))), none⟩,
  ⟨some (.p2 .d0 .d4), (.mv (.t (.p2 .d1 .d1))), none⟩,
  ⟨some (.p2 .d0 .d5), (.mv (.k (.bool true))), none⟩]) .ret))), [.tmp (.p2 .d0 .d4), .tmp (.p2 .d0 .d5)]⟩
def cf45 : CF := ⟨45, true, (.seq (.reg [
  ⟨some (.p2 .d0 .d2), (.mv (.k (.bool false))), none⟩]) (.seq (.reg [
  ⟨some (.p2 .d0 .d3), (.mv (.t (.p2 .d0 .d0))), none⟩,
  ⟨some (.p2 .d0 .d4), (.geq (.t (.p2 .d0 .d3)) (.k (.u8 65))), none⟩,
  ⟨some (.p2 .d0 .d5), (.mv (.t (.p2 .d0 .d4))), none⟩,
  ⟨some (.p2 .d0 .d6), (.mv (.t (.p2 .d0 .d0))), some ((.p2 .d0 .d5), true)⟩,
  ⟨some (.p2 .d0 .d7), (.leq (.t (.p2 .d0 .d6)) (.k (.u8 90))), some ((.p2 .d0 .d5), true)⟩,
  ⟨some (.p2 .d0 .d8), (.pick (.t (.p2 .d0 .d5)) (.t (.p2 .d0 .d7)) (.k (.bool false))), none⟩,
  ⟨some (.p2 .d0 .d9), (.mv (.t (.p2 .d0 .d8))), none⟩,
  ⟨some (.p2 .d0 .d10), (.mv (.t (.p2 .d0 .d0))), some ((.p2 .d0 .d9), false)⟩,
  ⟨some (.p2 .d0 .d11), (.geq (.t (.p2 .d0 .d10)) (.k (.u8 97))), some ((.p2 .d0 .d9), false)⟩,
  ⟨some (.p2 .d0 .d12), (.mv (.t (.p2 .d0 .d11))), some ((.p2 .d0 .d9), false)⟩,
  ⟨some (.p2 .d0 .d13), (.mv (.t (.p2 .d0 .d0))), some ((.p2 .d0 .d12), true)⟩,
  ⟨some (.p2 .d0 .d14), (.leq (.t (.p2 .d0 .d13)) (.k (.u8 122))), some ((.p2 .d0 .d12), true)⟩,
  ⟨some (.p2 .d0 .d15), (.pick (.t (.p2 .d0 .d12)) (.t (.p2 .d0 .d14)) (.k (.bool false))), some ((.p2 .d0 .d9), false)⟩,
  ⟨some (.p2 .d1 .d0), (.pick (.t (.p2 .d0 .d9)) (.k (.bool true)) (.t (.p2 .d0 .d15))), none⟩,
  ⟨some (.p2 .d1 .d1), (.mv (.t (.p2 .d1 .d0))), none⟩,
  ⟨some (.p2 .d1 .d2), (.mv (.t (.p2 .d0 .d0))), some ((.p2 .d1 .d1), false)⟩,
  ⟨some (.p2 .d1 .d3), (.eql (.cell (.int .u8)) (.t (.p2 .d1 .d2)) (.k (.u8 95))), some ((.p2 .d1 .d1), false)⟩,
  ⟨some (.p2 .d1 .d4), (.pick (.t (.p2 .d1 .d1)) (.k (.bool true)) (.t (.p2 .d1 .d3))), none⟩,
  ⟨some (.p2 .d0 .d2), (.mv (.t (.p2 .d1 .d4))), none⟩]) .ret)), [.tmp (.p2 .d0 .d2)]⟩
def cf46 : CF := ⟨46, true, (.seq (.reg [
  ⟨some (.p2 .d0 .d2), (.mv (.k .nils)), none⟩]) (.seq (.reg [
  ⟨some (.p2 .d0 .d3), (.mv (.k (.i (.ofNat 0)))), none⟩]) (.seq (.reg [
  ⟨some (.p2 .d0 .d4), (.mv (.k (.i (.ofNat 1)))), none⟩]) (.seq (.reg [
  ⟨some (.p2 .d0 .d5), (.mv (.k (.u8 0))), none⟩]) (.seq (.seq (.reg [
  ⟨some (.p2 .d0 .d6), (.mv (.k (.i (.ofNat 0)))), none⟩]) (.block 0 (.loop (.seq (.seq (.reg [
  ⟨some (.p2 .d0 .d13), (.mv (.t (.p2 .d0 .d6))), none⟩,
  ⟨some (.p2 .d0 .d14), (.mv (.t (.p2 .d0 .d0))), none⟩,
  ⟨some (.p2 .d0 .d15), (.len 0 (.t (.p2 .d0 .d14))), none⟩,
  ⟨some (.p2 .d1 .d0), (.lss (.t (.p2 .d0 .d13)) (.t (.p2 .d0 .d15))), none⟩]) (.cond (.t (.p2 .d1 .d0)) .skip (.exit 0))) (.seq (.block 1 (.seq (.reg [
  ⟨some (.p2 .d1 .d3), (.mv (.t (.p2 .d0 .d0))), none⟩,
  ⟨some (.p2 .d1 .d4), (.mv (.t (.p2 .d0 .d6))), none⟩,
  ⟨some (.p2 .d1 .d5), (.ixs (.t (.p2 .d1 .d3)) (.t (.p2 .d1 .d4))), none⟩,
  ⟨some (.p2 .d0 .d7), (.mv (.t (.p2 .d1 .d5))), none⟩]) (.seq (.reg [
  ⟨some (.p2 .d1 .d6), (.mv (.t (.p2 .d0 .d5))), none⟩,
  ⟨some (.p2 .d1 .d7), (.mv (.t (.p2 .d0 .d7))), none⟩,
  ⟨some (.p2 .d1 .d8), (.or (.t (.p2 .d1 .d6)) (.t (.p2 .d1 .d7))), none⟩,
  ⟨some (.p2 .d0 .d5), (.mv (.t (.p2 .d1 .d8))), none⟩]) (.seq (.reg [
  ⟨some (.p2 .d1 .d9), (.mv (.t (.p2 .d0 .d7))), none⟩,
  ⟨some (.p2 .d1 .d10), (.iaArr 1 256 (.k (.ptr ⟨.d15, .d0, .d0, .d1⟩ 0)) (.t (.p2 .d1 .d9))), none⟩,
  ⟨some (.p2 .d1 .d11), (.ld1 (.t (.p2 .d1 .d10))), none⟩,
  ⟨some (.p2 .d1 .d12), (.cint .i64 (.t (.p2 .d1 .d11))), none⟩,
  ⟨some (.p2 .d0 .d8), (.mv (.t (.p2 .d1 .d12))), none⟩]) (.seq (.reg [
  ⟨some (.p2 .d1 .d13), (.mv (.t (.p2 .d0 .d3))), none⟩,
  ⟨some (.p2 .d1 .d14), (.mv (.t (.p2 .d0 .d4))), none⟩,
  ⟨some (.p2 .d1 .d15), (.mv (.t (.p2 .d0 .d8))), none⟩,
  ⟨some (.p2 .d2 .d0), (.com (.t (.p2 .d1 .d15))), none⟩,
  ⟨some (.p2 .d2 .d1), (.and (.t (.p2 .d1 .d14)) (.t (.p2 .d2 .d0))), none⟩,
  ⟨some (.p2 .d2 .d2), (.add (.t (.p2 .d1 .d13)) (.t (.p2 .d2 .d1))), none⟩,
  ⟨some (.p2 .d0 .d3), (.mv (.t (.p2 .d2 .d2))), none⟩]) (.reg [
  ⟨some (.p2 .d2 .d3), (.mv (.t (.p2 .d0 .d8))), none⟩,
  ⟨some (.p2 .d0 .d4), (.mv (.t (.p2 .d2 .d3))), none⟩])))))) (.reg [
  ⟨some (.p2 .d1 .d1), (.mv (.t (.p2 .d0 .d6))), none⟩,
  ⟨some (.p2 .d1 .d2), (.add (.t (.p2 .d1 .d1)) (.k (.i (.ofNat 1)))), none⟩,
  ⟨some (.p2 .d0 .d6), (.mv (.t (.p2 .d1 .d2))), none⟩])))))) (.seq (.seq (.reg [
  ⟨some (.p2 .d2 .d4), (.mv (.t (.p2 .d0 .d5))), none⟩,
  ⟨some (.p2 .d2 .d5), (.geq (.t (.p2 .d2 .d4)) (.k (.u8 128))), none⟩]) (.cond (.t (.p2 .d2 .d5)) (.seq (.reg [
  ⟨some (.p2 .d2 .d6), (.mv (.t (.p2 .d0 .d0))), none⟩,
  ⟨some (.p2 .d2 .d7), (.call ⟨76, .d0, .d4, .d12⟩ [(.t (.p2 .d2 .d6)), (.k (.func ⟨77, .d0, .d4, .d13⟩ [] []))]), none⟩,
  ⟨some (.p2 .d0 .d2), (.mv (.t (.p2 .d2 .d7))), none⟩]) .ret) .skip)) (.seq (.reg [
  ⟨some (.p2 .d2 .d8), (.mv (.t (.p2 .d0 .d3))), none⟩,
  ⟨some (.p2 .d2 .d9), (.mksl 9 1 16 [(.str 0 0)] (.t (.p2 .d2 .d8)) (.t (.p2 .d2 .d8))), none⟩,
  ⟨some (.p2 .d0 .d9), (.mv (.t (.p2 .d2 .d9))), none⟩]) (.seq (.reg [
  ⟨some (.p2 .d0 .d10), (.mv (.k (.i (.ofNat 0)))), none⟩]) (.seq (.reg [
  ⟨some (.p2 .d0 .d11), (.mv (.k (.i (.ofNat 0)))), none⟩]) (.seq (.reg [
  ⟨some (.p2 .d0 .d12), (.mv (.k (.i (.ofNat 0)))), none⟩]) (.seq (.block 2 (.loop (.seq (.seq (.reg [
  ⟨some (.p2 .d2 .d10), (.mv (.t (.p2 .d0 .d12))), none⟩,
  ⟨some (.p2 .d2 .d11), (.mv (.t (.p2 .d0 .d0))), none⟩,
  ⟨some (.p2 .d2 .d12), (.len 0 (.t (.p2 .d2 .d11))), none⟩,
  ⟨some (.p2 .d2 .d13), (.lss (.t (.p2 .d2 .d10)) (.t (.p2 .d2 .d12))), none⟩,
  ⟨some (.p2 .d2 .d14), (.mv (.t (.p2 .d2 .d13))), none⟩,
  ⟨some (.p2 .d2 .d15), (.mv (.t (.p2 .d0 .d0))), some ((.p2 .d2 .d14), true)⟩,
  ⟨some (.p2 .d3 .d0), (.mv (.t (.p2 .d0 .d12))), some ((.p2 .d2 .d14), true)⟩,
  ⟨some (.p2 .d3 .d1), (.ixs (.t (.p2 .d2 .d15)) (.t (.p2 .d3 .d0))), some ((.p2 .d2 .d14), true)⟩,
  ⟨some (.p2 .d3 .d2), (.iaArr 1 256 (.k (.ptr ⟨.d15, .d0, .d0, .d1⟩ 0)) (.t (.p2 .d3 .d1))), some ((.p2 .d2 .d14), true)⟩,
  ⟨some (.p2 .d3 .d3), (.ld1 (.t (.p2 .d3 .d2))), some ((.p2 .d2 .d14), true)⟩,
  ⟨some (.p2 .d3 .d4), (.neq (.cell (.int .u8)) (.t (.p2 .d3 .d3)) (.k (.u8 0))), some ((.p2 .d2 .d14), true)⟩,
  ⟨some (.p2 .d3 .d5), (.pick (.t (.p2 .d2 .d14)) (.t (.p2 .d3 .d4)) (.k (.bool false))), none⟩]) (.cond (.t (.p2 .d3 .d5)) .skip (.exit 2))) (.block 3 (.reg [
  ⟨some (.p2 .d3 .d6), (.mv (.t (.p2 .d0 .d12))), none⟩,
  ⟨some (.p2 .d3 .d7), (.add (.t (.p2 .d3 .d6)) (.k (.i (.ofNat 1)))), none⟩,
  ⟨some (.p2 .d0 .d12), (.mv (.t (.p2 .d3 .d7))), none⟩]))))) (.seq (.reg [
  ⟨some (.p2 .d3 .d8), (.mv (.t (.p2 .d0 .d12))), none⟩,
  ⟨some (.p2 .d0 .d11), (.mv (.t (.p2 .d3 .d8))), none⟩]) (.seq (.block 4 (.loop (.seq (.seq (.reg [
  ⟨some (.p2 .d3 .d9), (.mv (.t (.p2 .d0 .d12))), none⟩,
  ⟨some (.p2 .d3 .d10), (.mv (.t (.p2 .d0 .d0))), none⟩,
  ⟨some (.p2 .d3 .d11), (.len 0 (.t (.p2 .d3 .d10))), none⟩,
  ⟨some (.p2 .d3 .d12), (.lss (.t (.p2 .d3 .d9)) (.t (.p2 .d3 .d11))), none⟩]) (.cond (.t (.p2 .d3 .d12)) .skip (.exit 4))) (.block 5 (.seq (.seq (.reg [
  ⟨some (.p2 .d3 .d13), (.mv (.t (.p2 .d0 .d0))), none⟩,
  ⟨some (.p2 .d3 .d14), (.mv (.t (.p2 .d0 .d12))), none⟩,
  ⟨some (.p2 .d3 .d15), (.ixs (.t (.p2 .d3 .d13)) (.t (.p2 .d3 .d14))), none⟩,
  ⟨some (.p2 .d4 .d0), (.iaArr 1 256 (.k (.ptr ⟨.d15, .d0, .d0, .d1⟩ 0)) (.t (.p2 .d3 .d15))), none⟩,
  ⟨some (.p2 .d4 .d1), (.ld1 (.t (.p2 .d4 .d0))), none⟩,
  ⟨some (.p2 .d4 .d2), (.eql (.cell (.int .u8)) (.t (.p2 .d4 .d1)) (.k (.u8 0))), none⟩]) (.cond (.t (.p2 .d4 .d2)) (.seq (.reg [
  ⟨some (.p2 .d4 .d3), (.mv (.t (.p2 .d0 .d12))), none⟩,
  ⟨some (.p2 .d4 .d4), (.add (.t (.p2 .d4 .d3)) (.k (.i (.ofNat 1)))), none⟩,
  ⟨some (.p2 .d0 .d12), (.mv (.t (.p2 .d4 .d4))), none⟩]) (.exit 5)) .skip)) (.seq (.reg [
  ⟨some (.p2 .d4 .d5), (.mv (.t (.p2 .d0 .d9))), none⟩,
  ⟨some (.p2 .d4 .d6), (.mv (.t (.p2 .d0 .d10))), none⟩,
  ⟨some (.p2 .d4 .d7), (.mv (.t (.p2 .d0 .d0))), none⟩,
  ⟨some (.p2 .d4 .d8), (.mv (.t (.p2 .d0 .d11))), none⟩,
  ⟨some (.p2 .d4 .d9), (.mv (.t (.p2 .d0 .d12))), none⟩,
  ⟨some (.p2 .d4 .d10), (.slStr (.t (.p2 .d4 .d7)) (some (.t (.p2 .d4 .d8))) (some (.t (.p2 .d4 .d9)))), none⟩,
  ⟨some (.p2 .d4 .d11), (.ia 1 (.t (.p2 .d4 .d5)) (.t (.p2 .d4 .d6))), none⟩,
  ⟨none, (.st 1 (.t (.p2 .d4 .d11)) (.t (.p2 .d4 .d10))), none⟩]) (.seq (.reg [
  ⟨some (.p2 .d4 .d12), (.mv (.t (.p2 .d0 .d10))), none⟩,
  ⟨some (.p2 .d4 .d13), (.add (.t (.p2 .d4 .d12)) (.k (.i (.ofNat 1)))), none⟩,
  ⟨some (.p2 .d0 .d10), (.mv (.t (.p2 .d4 .d13))), none⟩]) (.seq (.reg [
  ⟨some (.p2 .d4 .d14), (.mv (.t (.p2 .d0 .d12))), none⟩,
  ⟨some (.p2 .d4 .d15), (.add (.t (.p2 .d4 .d14)) (.k (.i (.ofNat 1)))), none⟩,
  ⟨some (.p2 .d0 .d12), (.mv (.t (.p2 .d4 .d15))), none⟩]) (.seq (.block 6 (.loop (.seq (.seq (.reg [
  ⟨some (.p2 .d5 .d0), (.mv (.t (.p2 .d0 .d12))), none⟩,
  ⟨some (.p2 .d5 .d1), (.mv (.t (.p2 .d0 .d0))), none⟩,
  ⟨some (.p2 .d5 .d2), (.len 0 (.t (.p2 .d5 .d1))), none⟩,
  ⟨some (.p2 .d5 .d3), (.lss (.t (.p2 .d5 .d0)) (.t (.p2 .d5 .d2))), none⟩,
  ⟨some (.p2 .d5 .d4), (.mv (.t (.p2 .d5 .d3))), none⟩,
  ⟨some (.p2 .d5 .d5), (.mv (.t (.p2 .d0 .d0))), some ((.p2 .d5 .d4), true)⟩,
  ⟨some (.p2 .d5 .d6), (.mv (.t (.p2 .d0 .d12))), some ((.p2 .d5 .d4), true)⟩,
  ⟨some (.p2 .d5 .d7), (.ixs (.t (.p2 .d5 .d5)) (.t (.p2 .d5 .d6))), some ((.p2 .d5 .d4), true)⟩,
  ⟨some (.p2 .d5 .d8), (.iaArr 1 256 (.k (.ptr ⟨.d15, .d0, .d0, .d1⟩ 0)) (.t (.p2 .d5 .d7))), some ((.p2 .d5 .d4), true)⟩,
  ⟨some (.p2 .d5 .d9), (.ld1 (.t (.p2 .d5 .d8))), some ((.p2 .d5 .d4), true)⟩,
  ⟨some (.p2 .d5 .d10), (.neq (.cell (.int .u8)) (.t (.p2 .d5 .d9)) (.k (.u8 0))), some ((.p2 .d5 .d4), true)⟩,
  ⟨some (.p2 .d5 .d11), (.pick (.t (.p2 .d5 .d4)) (.t (.p2 .d5 .d10)) (.k (.bool false))), none⟩]) (.cond (.t (.p2 .d5 .d11)) .skip (.exit 6))) (.block 7 (.reg [
  ⟨some (.p2 .d5 .d12), (.mv (.t (.p2 .d0 .d12))), none⟩,
  ⟨some (.p2 .d5 .d13), (.add (.t (.p2 .d5 .d12)) (.k (.i (.ofNat 1)))), none⟩,
  ⟨some (.p2 .d0 .d12), (.mv (.t (.p2 .d5 .d13))), none⟩]))))) (.reg [
  ⟨some (.p2 .d5 .d14), (.mv (.t (.p2 .d0 .d12))), none⟩,
  ⟨some (.p2 .d0 .d11), (.mv (.t (.p2 .d5 .d14))), none⟩])))))))))) (.seq (.seq (.reg [
  ⟨some (.p2 .d5 .d15), (.mv (.t (.p2 .d0 .d11))), none⟩,
  ⟨some (.p2 .d6 .d0), (.mv (.t (.p2 .d0 .d0))), none⟩,
  ⟨some (.p2 .d6 .d1), (.len 0 (.t (.p2 .d6 .d0))), none⟩,
  ⟨some (.p2 .d6 .d2), (.lss (.t (.p2 .d5 .d15)) (.t (.p2 .d6 .d1))), none⟩]) (.cond (.t (.p2 .d6 .d2)) (.reg [
  ⟨some (.p2 .d6 .d3), (.mv (.t (.p2 .d0 .d9))), none⟩,
  ⟨some (.p2 .d6 .d4), (.mv (.t (.p2 .d0 .d10))), none⟩,
  ⟨some (.p2 .d6 .d5), (.mv (.t (.p2 .d0 .d0))), none⟩,
  ⟨some (.p2 .d6 .d6), (.mv (.t (.p2 .d0 .d11))), none⟩,
  ⟨some (.p2 .d6 .d7), (.slStr (.t (.p2 .d6 .d5)) (some (.t (.p2 .d6 .d6))) none), none⟩,
  ⟨some (.p2 .d6 .d8), (.ia 1 (.t (.p2 .d6 .d3)) (.t (.p2 .d6 .d4))), none⟩,
  ⟨none, (.st 1 (.t (.p2 .d6 .d8)) (.t (.p2 .d6 .d7))), none⟩]) .skip)) (.seq (.reg [
  ⟨some (.p2 .d6 .d9), (.mv (.t (.p2 .d0 .d9))), none⟩,
  ⟨some (.p2 .d0 .d2), (.mv (.t (.p2 .d6 .d9))), none⟩]) .ret))))))))))))))), [.tmp (.p2 .d0 .d2)]⟩
def cf48 : CF := ⟨48, true, (.seq (.reg [
  ⟨some (.p2 .d0 .d2), (.mv (.k (.i (.ofNat 0)))), none⟩]) (.seq (.seq (.reg [
  ⟨some (.p2 .d0 .d3), (.mv (.k (.i (.ofNat 0)))), none⟩]) (.block 0 (.loop (.seq (.seq (.reg [
  ⟨some (.p2 .d0 .d6), (.mv (.t (.p2 .d0 .d3))), none⟩,
  ⟨some (.p2 .d0 .d7), (.mv (.t (.p2 .d0 .d0))), none⟩,
  ⟨some (.p2 .d0 .d8), (.len 0 (.t (.p2 .d0 .d7))), none⟩,
  ⟨some (.p2 .d0 .d9), (.lss (.t (.p2 .d0 .d6)) (.t (.p2 .d0 .d8))), none⟩]) (.cond (.t (.p2 .d0 .d9)) .skip (.exit 0))) (.block 1 (.seq (.reg [
  ⟨some (.p2 .d0 .d11), (.mv (.t (.p2 .d0 .d0))), none⟩,
  ⟨some (.p2 .d0 .d12), (.mv (.t (.p2 .d0 .d3))), none⟩,
  ⟨some (.p2 .d0 .d13), (.slStr (.t (.p2 .d0 .d11)) (some (.t (.p2 .d0 .d12))) none), none⟩,
  ⟨some (.p2 .d0 .d14), (.call ⟨78, .d0, .d4, .d14⟩ [(.t (.p2 .d0 .d13))]), none⟩,
  ⟨some (.p2 .d0 .d10), (.mv (.t (.p2 .d0 .d14))), none⟩,
  ⟨some (.p2 .d0 .d15), (.ext (.t (.p2 .d0 .d10)) 0), none⟩,
  ⟨some (.p2 .d1 .d0), (.ext (.t (.p2 .d0 .d10)) 1), none⟩,
  ⟨some (.p2 .d0 .d4), (.mv (.t (.p2 .d0 .d15))), none⟩,
  ⟨some (.p2 .d0 .d5), (.mv (.t (.p2 .d1 .d0))), none⟩]) (.seq (.seq (.reg [
  ⟨some (.p2 .d1 .d1), (.mv (.t (.p2 .d0 .d5))), none⟩,
  ⟨some (.p2 .d1 .d2), (.eql (.cell (.int .i64)) (.t (.p2 .d1 .d1)) (.k (.i (.ofNat 1)))), none⟩,
  ⟨some (.p2 .d1 .d3), (.mv (.t (.p2 .d1 .d2))), none⟩,
  ⟨some (.p2 .d1 .d4), (.mv (.t (.p2 .d0 .d0))), some ((.p2 .d1 .d3), true)⟩,
  ⟨some (.p2 .d1 .d5), (.mv (.t (.p2 .d0 .d3))), some ((.p2 .d1 .d3), true)⟩,
  ⟨some (.p2 .d1 .d6), (.ixs (.t (.p2 .d1 .d4)) (.t (.p2 .d1 .d5))), some ((.p2 .d1 .d3), true)⟩,
  ⟨some (.p2 .d1 .d7), (.geq (.t (.p2 .d1 .d6)) (.k (.u8 128))), some ((.p2 .d1 .d3), true)⟩,
  ⟨some (.p2 .d1 .d8), (.pick (.t (.p2 .d1 .d3)) (.t (.p2 .d1 .d7)) (.k (.bool false))), none⟩]) (.cond (.t (.p2 .d1 .d8)) (.seq (.reg [
  ⟨some (.p2 .d1 .d9), (.mv (.t (.p2 .d0 .d3))), none⟩,
  ⟨some (.p2 .d0 .d2), (.mv (.t (.p2 .d1 .d9))), none⟩]) .ret) .skip)) (.reg [
  ⟨some (.p2 .d1 .d10), (.mv (.t (.p2 .d0 .d3))), none⟩,
  ⟨some (.p2 .d1 .d11), (.mv (.t (.p2 .d0 .d5))), none⟩,
  ⟨some (.p2 .d1 .d12), (.add (.t (.p2 .d1 .d10)) (.t (.p2 .d1 .d11))), none⟩,
  ⟨some (.p2 .d0 .d3), (.mv (.t (.p2 .d1 .d12))), none⟩])))))))) (.seq (.reg [
  ⟨some (.p2 .d0 .d2), (.mv (.k (.i (.negSucc 0)))), none⟩]) .ret))), [.tmp (.p2 .d0 .d2)]⟩
def cf49 : CF := ⟨49, true, (.seq (.seq (.reg [
  ⟨some (.p2 .d0 .d2), (.ldn 4 (.t (.p2 .d0 .d0))), none⟩,
  ⟨some (.p2 .d0 .d3), (.call ⟨50, .d0, .d3, .d2⟩ [(.t (.p2 .d0 .d2))]), none⟩]) (.cond (.t (.p2 .d0 .d3)) (.reg [
  ⟨some (.p2 .d0 .d4), (.ld1 (.t (.p2 .d0 .d1))), none⟩,
  ⟨some (.p2 .d0 .d5), (.fa (.t (.p2 .d0 .d0)) 3), none⟩,
  ⟨some (.p2 .d0 .d6), (.ld1 (.t (.p2 .d0 .d5))), none⟩,
  ⟨some (.p2 .d0 .d7), (.fa (.t (.p2 .d0 .d0)) 3), none⟩,
  ⟨some (.p2 .d0 .d8), (.ld1 (.t (.p2 .d0 .d7))), none⟩,
  ⟨some (.p2 .d0 .d9), (.build [(.i (.ofNat 0)), (.str 0 0), (.i (.ofNat 0)), (.i (.ofNat 0))] [(0, 1, (.k (.i (.ofNat 7)))), (1, 1, (.k (.str 0 0))), (2, 1, (.t (.p2 .d0 .d6))), (3, 1, (.t (.p2 .d0 .d8)))]), none⟩,
  ⟨some (.p2 .d0 .d10), (.bslice 80 4 1 [(.i (.ofNat 0)), (.str 0 0), (.i (.ofNat 0)), (.i (.ofNat 0))] [(0, (.t (.p2 .d0 .d9)))]), none⟩,
  ⟨some (.p2 .d0 .d11), (.append 80 4 40 (.t (.p2 .d0 .d4)) (.t (.p2 .d0 .d10))), none⟩,
  ⟨none, (.st 1 (.t (.p2 .d0 .d1)) (.t (.p2 .d0 .d11))), none⟩]) .skip)) (.reg [
  ⟨some (.p2 .d0 .d12), (.build [(.i (.ofNat 0)), (.str 0 0), (.i (.ofNat 0)), (.i (.ofNat 0))] []), none⟩,
  ⟨none, (.st 4 (.t (.p2 .d0 .d0)) (.t (.p2 .d0 .d12))), none⟩])), []⟩
def cf50 : CF := ⟨50, true, (.seq (.reg [
  ⟨some (.p2 .d0 .d1), (.box 80 4 (.t (.p2 .d0 .d0))), none⟩,
  ⟨some (.p2 .d0 .d2), (.mv (.k (.bool false))), none⟩]) (.seq (.seq (.reg [
  ⟨some (.p2 .d0 .d3), (.fa (.t (.p2 .d0 .d1)) 0), none⟩,
  ⟨some (.p2 .d0 .d4), (.ld1 (.t (.p2 .d0 .d3))), none⟩]) (.block 0 (.seq (.seq (.reg [
  ⟨some (.p2 .d0 .d6), (.eql (.cell (.int .i64)) (.t (.p2 .d0 .d4)) (.k (.i (.ofNat 1)))), none⟩,
  ⟨some (.p2 .d0 .d5), (.mv (.t (.p2 .d0 .d6))), none⟩]) (.cond (.t (.p2 .d0 .d5)) .skip (.seq (.reg [
  ⟨some (.p2 .d0 .d7), (.eql (.cell (.int .i64)) (.t (.p2 .d0 .d4)) (.k (.i (.ofNat 3)))), none⟩,
  ⟨some (.p2 .d0 .d5), (.mv (.t (.p2 .d0 .d7))), none⟩]) (.cond (.t (.p2 .d0 .d5)) .skip (.seq (.reg [
  ⟨some (.p2 .d0 .d8), (.eql (.cell (.int .i64)) (.t (.p2 .d0 .d4)) (.k (.i (.ofNat 4)))), none⟩,
  ⟨some (.p2 .d0 .d5), (.mv (.t (.p2 .d0 .d8))), none⟩]) (.cond (.t (.p2 .d0 .d5)) .skip (.reg [
  ⟨some (.p2 .d0 .d9), (.eql (.cell (.int .i64)) (.t (.p2 .d0 .d4)) (.k (.i (.ofNat 5)))), none⟩,
  ⟨some (.p2 .d0 .d5), (.mv (.t (.p2 .d0 .d9))), none⟩]))))))) (.cond (.t (.p2 .d0 .d5)) (.seq (.reg [
  ⟨some (.p2 .d0 .d2), (.mv (.k (.bool true))), none⟩]) .ret) (.seq (.reg [
  ⟨some (.p2 .d0 .d11), (.eql (.cell (.int .i64)) (.t (.p2 .d0 .d4)) (.k (.i (.ofNat 2)))), none⟩,
  ⟨some (.p2 .d0 .d10), (.mv (.t (.p2 .d0 .d11))), none⟩]) (.cond (.t (.p2 .d0 .d10)) (.seq (.reg [
  ⟨some (.p2 .d0 .d12), (.bslice 9 1 9 [(.str 0 0)] [(0, (.k (.str 4 1702195828))), (1, (.k (.str 5 435728179558))), (2, (.k (.str 6 121437875889522))), (3, (.k (.str 5 461195539042))), (4, (.k (.str 8 7310870969309884259))), (5, (.k (.str 3 7630441))), (6, (.k (.str 4 1819242338))), (7, (.k (.str 6 113723913172083))), (8, (.k (.str 7 14696572267752550)))]), none⟩,
  ⟨some (.p2 .d0 .d13), (.fa (.t (.p2 .d0 .d1)) 1), none⟩,
  ⟨some (.p2 .d0 .d14), (.ld1 (.t (.p2 .d0 .d13))), none⟩,
  ⟨some (.p2 .d0 .d15), (.call ⟨35, .d0, .d2, .d3⟩ [(.t (.p2 .d0 .d12)), (.t (.p2 .d0 .d14))]), none⟩,
  ⟨some (.p2 .d0 .d2), (.mv (.t (.p2 .d0 .d15))), none⟩]) .ret) .skip)))))) (.seq (.reg [
  ⟨some (.p2 .d1 .d0), (.fa (.t (.p2 .d0 .d1)) 1), none⟩,
  ⟨some (.p2 .d1 .d1), (.ld1 (.t (.p2 .d1 .d0))), none⟩,
  ⟨some (.p2 .d1 .d2), (.eql (.cell .str) (.t (.p2 .d1 .d1)) (.k (.str 1 41))), none⟩,
  ⟨some (.p2 .d1 .d3), (.mv (.t (.p2 .d1 .d2))), none⟩,
  ⟨some (.p2 .d1 .d4), (.fa (.t (.p2 .d0 .d1)) 1), some ((.p2 .d1 .d3), false)⟩,
  ⟨some (.p2 .d1 .d5), (.ld1 (.t (.p2 .d1 .d4))), some ((.p2 .d1 .d3), false)⟩,
  ⟨some (.p2 .d1 .d6), (.eql (.cell .str) (.t (.p2 .d1 .d5)) (.k (.str 1 125))), some ((.p2 .d1 .d3), false)⟩,
  ⟨some (.p2 .d1 .d7), (.pick (.t (.p2 .d1 .d3)) (.k (.bool true)) (.t (.p2 .d1 .d6))), none⟩,
  ⟨some (.p2 .d0 .d2), (.mv (.t (.p2 .d1 .d7))), none⟩]) .ret))), [.tmp (.p2 .d0 .d2)]⟩
def cf51 : CF := ⟨51, true, (.seq (.reg [
  ⟨some (.p2 .d0 .d4), (.mv (.k (.i (.ofNat 0)))), none⟩]) (.seq (.reg [
  ⟨some (.p2 .d0 .d5), (.mv (.t (.p2 .d0 .d0))), none⟩,
  ⟨some (.p2 .d0 .d6), (.mv (.t (.p2 .d0 .d1))), none⟩,
  ⟨some (.p2 .d0 .d7), (.call ⟨79, .d0, .d4, .d15⟩ [(.t (.p2 .d0 .d5)), (.t (.p2 .d0 .d6))]), none⟩,
  ⟨some (.p2 .d0 .d4), (.mv (.t (.p2 .d0 .d7))), none⟩]) .ret)), [.tmp (.p2 .d0 .d4)]⟩
def cf52 : CF := ⟨52, true, (.seq (.reg [
  ⟨some (.p2 .d0 .d4), (.mv (.k (.bool false))), none⟩]) (.seq (.reg [
  ⟨some (.p2 .d0 .d5), (.mv (.t (.p2 .d0 .d0))), none⟩,
  ⟨some (.p2 .d0 .d6), (.mv (.t (.p2 .d0 .d1))), none⟩,
  ⟨some (.p2 .d0 .d7), (.call ⟨73, .d0, .d4, .d9⟩ [(.t (.p2 .d0 .d5)), (.t (.p2 .d0 .d6))]), none⟩,
  ⟨some (.p2 .d0 .d4), (.mv (.t (.p2 .d0 .d7))), none⟩]) .ret)), [.tmp (.p2 .d0 .d4)]⟩
def cf53 : CF := ⟨53, true, (.seq (.reg [
  ⟨some (.p2 .d0 .d2), (.alloc 80 [(.i (.ofNat 0)), (.str 0 0), (.i (.ofNat 0)), (.i (.ofNat 0))]), none⟩,
  ⟨some (.p2 .d0 .d3), (.mv (.k (.i (.ofNat 0)))), none⟩]) (.seq (.seq (.reg [
  ⟨some (.p2 .d0 .d13), (.mv (.t (.p2 .d0 .d0))), none⟩,
  ⟨some (.p2 .d0 .d14), (.call ⟨80, .d0, .d5, .d0⟩ [(.t (.p2 .d0 .d13))]), none⟩,
  ⟨some (.p2 .d0 .d4), (.mv (.t (.p2 .d0 .d14))), none⟩]) (.seq (.reg [
  ⟨some (.p2 .d0 .d15), (.mv (.t (.p2 .d0 .d4))), none⟩,
  ⟨some (.p2 .d1 .d0), (.gtr (.t (.p2 .d0 .d15)) (.k (.i (.ofNat 0)))), none⟩]) (.cond (.t (.p2 .d1 .d0)) (.seq (.reg [
  ⟨some (.p2 .d1 .d1), (.mv (.t (.p2 .d0 .d0))), none⟩,
  ⟨some (.p2 .d1 .d2), (.mv (.t (.p2 .d0 .d4))), none⟩,
  ⟨some (.p2 .d1 .d3), (.slStr (.t (.p2 .d1 .d1)) none (some (.t (.p2 .d1 .d2)))), none⟩,
  ⟨some (.p2 .d1 .d4), (.mv (.t (.p2 .d0 .d4))), none⟩,
  ⟨some (.p2 .d1 .d5), (.build [(.i (.ofNat 0)), (.str 0 0), (.i (.ofNat 0)), (.i (.ofNat 0))] [(0, 1, (.k (.i (.ofNat 1)))), (1, 1, (.t (.p2 .d1 .d3))), (2, 1, (.k (.i (.ofNat 0)))), (3, 1, (.t (.p2 .d1 .d4)))]), none⟩,
  ⟨some (.p2 .d0 .d5), (.alloc 80 [(.i (.ofNat 0)), (.str 0 0), (.i (.ofNat 0)), (.i (.ofNat 0))]), none⟩,
  ⟨none, (.st 4 (.t (.p2 .d0 .d5)) (.t (.p2 .d1 .d5))), none⟩]) (.seq (.block 0 (.seq (.reg [
  ⟨some (.p2 .d1 .d7), (.fa (.t (.p2 .d0 .d5)) 1), none⟩,
  ⟨some (.p2 .d1 .d8), (.ld1 (.t (.p2 .d1 .d7))), none⟩,
  ⟨some (.p2 .d1 .d9), (.call ⟨81, .d0, .d5, .d1⟩ [(.t (.p2 .d1 .d8))]), none⟩,
  ⟨some (.p2 .d1 .d6), (.mv (.t (.p2 .d1 .d9))), none⟩]) (.cond (.t (.p2 .d1 .d6)) (.reg [
  ⟨some (.p2 .d1 .d10), (.fa (.t (.p2 .d0 .d5)) 0), none⟩,
  ⟨none, (.st 1 (.t (.p2 .d1 .d10)) (.k (.i (.ofNat 2)))), none⟩]) (.seq (.reg [
  ⟨some (.p2 .d1 .d12), (.mv (.t (.p2 .d0 .d4))), none⟩,
  ⟨some (.p2 .d1 .d13), (.gtr (.t (.p2 .d1 .d12)) (.k (.i (.ofNat 40)))), none⟩,
  ⟨some (.p2 .d1 .d11), (.mv (.t (.p2 .d1 .d13))), none⟩]) (.cond (.t (.p2 .d1 .d11)) (.seq (.reg [
  ⟨some (.p2 .d1 .d14), (.ldn 4 (.t (.p2 .d0 .d5))), none⟩,
  ⟨none, (.st 4 (.t (.p2 .d0 .d2)) (.t (.p2 .d1 .d14))), none⟩,
  ⟨some (.p2 .d0 .d3), (.mv (.k (.i (.ofNat 3)))), none⟩]) .ret) (.seq (.reg [
  ⟨some (.p2 .d2 .d0), (.fa (.t (.p2 .d0 .d5)) 1), none⟩,
  ⟨some (.p2 .d2 .d1), (.ld1 (.t (.p2 .d2 .d0))), none⟩,
  ⟨some (.p2 .d2 .d2), (.call ⟨82, .d0, .d5, .d2⟩ [(.t (.p2 .d2 .d1))]), none⟩,
  ⟨some (.p2 .d2 .d3), (.not (.t (.p2 .d2 .d2))), none⟩,
  ⟨some (.p2 .d1 .d15), (.mv (.t (.p2 .d2 .d3))), none⟩]) (.cond (.t (.p2 .d1 .d15)) (.seq (.reg [
  ⟨some (.p2 .d2 .d4), (.ldn 4 (.t (.p2 .d0 .d5))), none⟩,
  ⟨none, (.st 4 (.t (.p2 .d0 .d2)) (.t (.p2 .d2 .d4))), none⟩,
  ⟨some (.p2 .d0 .d3), (.mv (.k (.i (.ofNat 9)))), none⟩]) .ret) .skip))))))) (.seq (.reg [
  ⟨some (.p2 .d2 .d5), (.ldn 4 (.t (.p2 .d0 .d5))), none⟩,
  ⟨none, (.st 4 (.t (.p2 .d0 .d2)) (.t (.p2 .d2 .d5))), none⟩,
  ⟨some (.p2 .d0 .d3), (.mv (.k (.i (.ofNat 0)))), none⟩]) .ret))) .skip))) (.seq (.seq (.reg [
  ⟨some (.p2 .d2 .d7), (.mv (.t (.p2 .d0 .d0))), none⟩,
  ⟨some (.p2 .d2 .d8), (.call ⟨83, .d0, .d5, .d3⟩ [(.t (.p2 .d2 .d7))]), none⟩,
  ⟨some (.p2 .d2 .d6), (.mv (.t (.p2 .d2 .d8))), none⟩,
  ⟨some (.p2 .d2 .d9), (.ext (.t (.p2 .d2 .d6)) 0), none⟩,
  ⟨some (.p2 .d2 .d10), (.ext (.t (.p2 .d2 .d6)) 1), none⟩,
  ⟨some (.p2 .d0 .d6), (.mv (.t (.p2 .d2 .d9))), none⟩,
  ⟨some (.p2 .d0 .d7), (.mv (.t (.p2 .d2 .d10))), none⟩]) (.seq (.reg [
  ⟨some (.p2 .d2 .d11), (.mv (.t (.p2 .d0 .d7))), none⟩,
  ⟨some (.p2 .d2 .d12), (.gtr (.t (.p2 .d2 .d11)) (.k (.i (.ofNat 0)))), none⟩]) (.cond (.t (.p2 .d2 .d12)) (.seq (.reg [
  ⟨some (.p2 .d0 .d8), (.mv (.k (.i (.ofNat 0)))), none⟩]) (.seq (.seq (.reg [
  ⟨some (.p2 .d2 .d13), (.mv (.t (.p2 .d0 .d6))), none⟩,
  ⟨some (.p2 .d2 .d14), (.eql (.cell (.int .i64)) (.t (.p2 .d2 .d13)) (.k (.i (.ofNat 3)))), none⟩]) (.cond (.t (.p2 .d2 .d14)) (.reg [
  ⟨some (.p2 .d3 .d0), (.mv (.t (.p2 .d0 .d0))), none⟩,
  ⟨some (.p2 .d3 .d1), (.mv (.t (.p2 .d0 .d7))), none⟩,
  ⟨some (.p2 .d3 .d2), (.slStr (.t (.p2 .d3 .d0)) none (some (.t (.p2 .d3 .d1)))), none⟩,
  ⟨some (.p2 .d3 .d3), (.call ⟨84, .d0, .d5, .d4⟩ [(.t (.p2 .d3 .d2))]), none⟩,
  ⟨some (.p2 .d2 .d15), (.mv (.t (.p2 .d3 .d3))), none⟩,
  ⟨some (.p2 .d3 .d4), (.ext (.t (.p2 .d2 .d15)) 0), none⟩,
  ⟨some (.p2 .d3 .d5), (.ext (.t (.p2 .d2 .d15)) 1), none⟩,
  ⟨some (.p2 .d0 .d8), (.mv (.t (.p2 .d3 .d5))), none⟩]) (.reg [
  ⟨some (.p2 .d3 .d7), (.mv (.t (.p2 .d0 .d0))), none⟩,
  ⟨some (.p2 .d3 .d8), (.mv (.t (.p2 .d0 .d7))), none⟩,
  ⟨some (.p2 .d3 .d9), (.slStr (.t (.p2 .d3 .d7)) none (some (.t (.p2 .d3 .d8)))), none⟩,
  ⟨some (.p2 .d3 .d10), (.call ⟨85, .d0, .d5, .d5⟩ [(.t (.p2 .d3 .d9))]), none⟩,
  ⟨some (.p2 .d3 .d6), (.mv (.t (.p2 .d3 .d10))), none⟩,
  ⟨some (.p2 .d3 .d11), (.ext (.t (.p2 .d3 .d6)) 0), none⟩,
  ⟨some (.p2 .d3 .d12), (.ext (.t (.p2 .d3 .d6)) 1), none⟩,
  ⟨some (.p2 .d0 .d8), (.mv (.t (.p2 .d3 .d12))), none⟩]))) (.seq (.reg [
  ⟨some (.p2 .d3 .d13), (.mv (.t (.p2 .d0 .d6))), none⟩,
  ⟨some (.p2 .d3 .d14), (.mv (.t (.p2 .d0 .d0))), none⟩,
  ⟨some (.p2 .d3 .d15), (.mv (.t (.p2 .d0 .d7))), none⟩,
  ⟨some (.p2 .d4 .d0), (.slStr (.t (.p2 .d3 .d14)) none (some (.t (.p2 .d3 .d15)))), none⟩,
  ⟨some (.p2 .d4 .d1), (.mv (.t (.p2 .d0 .d7))), none⟩,
  ⟨some (.p2 .d4 .d2), (.build [(.i (.ofNat 0)), (.str 0 0), (.i (.ofNat 0)), (.i (.ofNat 0))] [(0, 1, (.t (.p2 .d3 .d13))), (1, 1, (.t (.p2 .d4 .d0))), (2, 1, (.k (.i (.ofNat 0)))), (3, 1, (.t (.p2 .d4 .d1)))]), none⟩,
  ⟨some (.p2 .d4 .d3), (.mv (.t (.p2 .d0 .d8))), none⟩,
  ⟨none, (.st 4 (.t (.p2 .d0 .d2)) (.t (.p2 .d4 .d2))), none⟩,
  ⟨some (.p2 .d0 .d3), (.mv (.t (.p2 .d4 .d3))), none⟩]) .ret))) .skip))) (.seq (.seq (.reg [
  ⟨some (.p2 .d4 .d5), (.mv (.t (.p2 .d0 .d0))), none⟩,
  ⟨some (.p2 .d4 .d6), (.call ⟨86, .d0, .d5, .d6⟩ [(.t (.p2 .d4 .d5))]), none⟩,
  ⟨some (.p2 .d4 .d4), (.mv (.t (.p2 .d4 .d6))), none⟩,
  ⟨some (.p2 .d4 .d7), (.ext (.t (.p2 .d4 .d4)) 0), none⟩,
  ⟨some (.p2 .d4 .d8), (.ext (.t (.p2 .d4 .d4)) 1), none⟩,
  ⟨some (.p2 .d0 .d9), (.mv (.t (.p2 .d4 .d7))), none⟩,
  ⟨some (.p2 .d0 .d10), (.mv (.t (.p2 .d4 .d8))), none⟩]) (.seq (.reg [
  ⟨some (.p2 .d4 .d9), (.mv (.t (.p2 .d0 .d10))), none⟩,
  ⟨some (.p2 .d4 .d10), (.gtr (.t (.p2 .d4 .d9)) (.k (.i (.ofNat 0)))), none⟩]) (.cond (.t (.p2 .d4 .d10)) (.seq (.reg [
  ⟨some (.p2 .d0 .d11), (.mv (.k (.i (.ofNat 0)))), none⟩]) (.seq (.seq (.reg [
  ⟨some (.p2 .d4 .d11), (.mv (.t (.p2 .d0 .d9))), none⟩,
  ⟨some (.p2 .d4 .d12), (.len 0 (.t (.p2 .d4 .d11))), none⟩,
  ⟨some (.p2 .d4 .d13), (.gtr (.t (.p2 .d4 .d12)) (.k (.i (.ofNat 4096)))), none⟩]) (.cond (.t (.p2 .d4 .d13)) (.reg [
  ⟨some (.p2 .d0 .d11), (.mv (.k (.i (.ofNat 3)))), none⟩]) .skip)) (.seq (.reg [
  ⟨some (.p2 .d4 .d14), (.mv (.t (.p2 .d0 .d0))), none⟩,
  ⟨some (.p2 .d4 .d15), (.mv (.t (.p2 .d0 .d10))), none⟩,
  ⟨some (.p2 .d5 .d0), (.slStr (.t (.p2 .d4 .d14)) none (some (.t (.p2 .d4 .d15)))), none⟩,
  ⟨some (.p2 .d5 .d1), (.mv (.t (.p2 .d0 .d10))), none⟩,
  ⟨some (.p2 .d5 .d2), (.build [(.i (.ofNat 0)), (.str 0 0), (.i (.ofNat 0)), (.i (.ofNat 0))] [(0, 1, (.k (.i (.ofNat 5)))), (1, 1, (.t (.p2 .d5 .d0))), (2, 1, (.k (.i (.ofNat 0)))), (3, 1, (.t (.p2 .d5 .d1)))]), none⟩,
  ⟨some (.p2 .d5 .d3), (.mv (.t (.p2 .d0 .d11))), none⟩,
  ⟨none, (.st 4 (.t (.p2 .d0 .d2)) (.t (.p2 .d5 .d2))), none⟩,
  ⟨some (.p2 .d0 .d3), (.mv (.t (.p2 .d5 .d3))), none⟩]) .ret))) .skip))) (.seq (.seq (.reg [
  ⟨some (.p2 .d5 .d4), (.mv (.t (.p2 .d0 .d0))), none⟩,
  ⟨some (.p2 .d5 .d5), (.call ⟨52, .d0, .d3, .d4⟩ [(.t (.p2 .d5 .d4)), (.k (.str 1 59))]), none⟩]) (.cond (.t (.p2 .d5 .d5)) (.seq (.reg [
  ⟨some (.p2 .d5 .d6), (.build [(.i (.ofNat 0)), (.str 0 0), (.i (.ofNat 0)), (.i (.ofNat 0))] [(0, 1, (.k (.i (.ofNat 7)))), (1, 1, (.k (.str 1 59))), (2, 1, (.k (.i (.ofNat 0)))), (3, 1, (.k (.i (.ofNat 1))))]), none⟩,
  ⟨none, (.st 4 (.t (.p2 .d0 .d2)) (.t (.p2 .d5 .d6))), none⟩,
  ⟨some (.p2 .d0 .d3), (.mv (.k (.i (.ofNat 0)))), none⟩]) .ret) .skip)) (.seq (.seq (.reg [
  ⟨some (.p2 .d5 .d7), (.mv (.t (.p2 .d0 .d0))), none⟩,
  ⟨some (.p2 .d5 .d8), (.call ⟨87, .d0, .d5, .d7⟩ [(.t (.p2 .d5 .d7))]), none⟩,
  ⟨some (.p2 .d0 .d12), (.mv (.t (.p2 .d5 .d8))), none⟩]) (.seq (.reg [
  ⟨some (.p2 .d5 .d9), (.mv (.t (.p2 .d0 .d12))), none⟩,
  ⟨some (.p2 .d5 .d10), (.gtr (.t (.p2 .d5 .d9)) (.k (.i (.ofNat 0)))), none⟩]) (.cond (.t (.p2 .d5 .d10)) (.seq (.reg [
  ⟨some (.p2 .d5 .d11), (.mv (.t (.p2 .d0 .d0))), none⟩,
  ⟨some (.p2 .d5 .d12), (.mv (.t (.p2 .d0 .d12))), none⟩,
  ⟨some (.p2 .d5 .d13), (.slStr (.t (.p2 .d5 .d11)) none (some (.t (.p2 .d5 .d12)))), none⟩,
  ⟨some (.p2 .d5 .d14), (.mv (.t (.p2 .d0 .d12))), none⟩,
  ⟨some (.p2 .d5 .d15), (.build [(.i (.ofNat 0)), (.str 0 0), (.i (.ofNat 0)), (.i (.ofNat 0))] [(0, 1, (.k (.i (.ofNat 6)))), (1, 1, (.t (.p2 .d5 .d13))), (2, 1, (.k (.i (.ofNat 0)))), (3, 1, (.t (.p2 .d5 .d14)))]), none⟩,
  ⟨none, (.st 4 (.t (.p2 .d0 .d2)) (.t (.p2 .d5 .d15))), none⟩,
  ⟨some (.p2 .d0 .d3), (.mv (.k (.i (.ofNat 0)))), none⟩]) .ret) .skip))) (.seq (.reg [
  ⟨some (.p2 .d6 .d0), (.build [(.i (.ofNat 0)), (.str 0 0), (.i (.ofNat 0)), (.i (.ofNat 0))] []), none⟩,
  ⟨none, (.st 4 (.t (.p2 .d0 .d2)) (.t (.p2 .d6 .d0))), none⟩,
  ⟨some (.p2 .d0 .d3), (.mv (.k (.i (.ofNat 4)))), none⟩]) .ret))))))), [.cell 4 true (.p2 .d0 .d2), .tmp (.p2 .d0 .d3)]⟩
def cf54 : CF := ⟨54, true, (.seq (.reg [
  ⟨some (.p2 .d0 .d4), (.alloc 80 [(.i (.ofNat 0)), (.str 0 0), (.i (.ofNat 0)), (.i (.ofNat 0))]), none⟩]) (.seq (.seq (.reg [
  ⟨some (.p2 .d0 .d5), (.mv (.t (.p2 .d0 .d0))), none⟩,
  ⟨some (.p2 .d0 .d6), (.mv (.t (.p2 .d0 .d1))), none⟩,
  ⟨some (.p2 .d0 .d7), (.bslice 9 1 1 [(.str 0 0)] [(0, (.t (.p2 .d0 .d6)))]), none⟩,
  ⟨some (.p2 .d0 .d8), (.call ⟨57, .d0, .d3, .d9⟩ [(.t (.p2 .d0 .d5)), (.t (.p2 .d0 .d7))]), none⟩,
  ⟨some (.p2 .d0 .d9), (.not (.t (.p2 .d0 .d8))), none⟩]) (.cond (.t (.p2 .d0 .d9)) (.reg [
  ⟨some (.p2 .d0 .d10), (.mv (.t (.p2 .d0 .d0))), none⟩,
  ⟨some (.p2 .d0 .d11), (.call ⟨88, .d0, .d5, .d8⟩ [(.t (.p2 .d0 .d10)), (.k (.i (.ofNat 4)))]), none⟩]) .skip)) (.seq (.reg [
  ⟨some (.p2 .d0 .d12), (.mv (.t (.p2 .d0 .d0))), none⟩,
  ⟨some (.p2 .d0 .d13), (.call ⟨89, .d0, .d5, .d9⟩ [(.t (.p2 .d0 .d12))]), none⟩,
  ⟨none, (.st 4 (.t (.p2 .d0 .d4)) (.t (.p2 .d0 .d13))), none⟩]) .ret))), [.cell 4 true (.p2 .d0 .d4)]⟩
def cf55 : CF := ⟨55, true, (.seq (.reg [
  ⟨some (.p2 .d0 .d4), (.alloc 80 [(.i (.ofNat 0)), (.str 0 0), (.i (.ofNat 0)), (.i (.ofNat 0))]), none⟩]) (.seq (.seq (.reg [
  ⟨some (.p2 .d0 .d5), (.mv (.t (.p2 .d0 .d0))), none⟩,
  ⟨some (.p2 .d0 .d6), (.call ⟨90, .d0, .d5, .d10⟩ [(.t (.p2 .d0 .d5))]), none⟩,
  ⟨some (.p2 .d0 .d7), (.fld (.t (.p2 .d0 .d6)) 0 1 false), none⟩,
  ⟨some (.p2 .d0 .d8), (.mv (.t (.p2 .d0 .d1))), none⟩,
  ⟨some (.p2 .d0 .d9), (.neq (.cell (.int .i64)) (.t (.p2 .d0 .d7)) (.t (.p2 .d0 .d8))), none⟩]) (.cond (.t (.p2 .d0 .d9)) (.reg [
  ⟨some (.p2 .d0 .d10), (.mv (.t (.p2 .d0 .d0))), none⟩,
  ⟨some (.p2 .d0 .d11), (.call ⟨88, .d0, .d5, .d8⟩ [(.t (.p2 .d0 .d10)), (.k (.i (.ofNat 4)))]), none⟩]) .skip)) (.seq (.reg [
  ⟨some (.p2 .d0 .d12), (.mv (.t (.p2 .d0 .d0))), none⟩,
  ⟨some (.p2 .d0 .d13), (.call ⟨89, .d0, .d5, .d9⟩ [(.t (.p2 .d0 .d12))]), none⟩,
  ⟨none, (.st 4 (.t (.p2 .d0 .d4)) (.t (.p2 .d0 .d13))), none⟩]) .ret))), [.cell 4 true (.p2 .d0 .d4)]⟩
def cf56 : CF := ⟨56, true, (.reg [
  ⟨some (.p2 .d0 .d2), (.mv (.t (.p2 .d0 .d0))), none⟩,
  ⟨some (.p2 .d0 .d3), (.call ⟨55, .d0, .d3, .d7⟩ [(.t (.p2 .d0 .d2)), (.k (.i (.ofNat 7)))]), none⟩]), []⟩
def cf57 : CF := ⟨57, true, (.seq (.reg [
  ⟨some (.p2 .d0 .d4), (.mv (.k (.bool false))), none⟩]) (.seq (.reg [
  ⟨some (.p2 .d0 .d6), (.mv (.t (.p2 .d0 .d0))), none⟩,
  ⟨some (.p2 .d0 .d7), (.call ⟨90, .d0, .d5, .d10⟩ [(.t (.p2 .d0 .d6))]), none⟩,
  ⟨some (.p2 .d0 .d5), (.alloc 80 [(.i (.ofNat 0)), (.str 0 0), (.i (.ofNat 0)), (.i (.ofNat 0))]), none⟩,
  ⟨none, (.st 4 (.t (.p2 .d0 .d5)) (.t (.p2 .d0 .d7))), none⟩]) (.seq (.reg [
  ⟨some (.p2 .d0 .d8), (.fa (.t (.p2 .d0 .d5)) 0), none⟩,
  ⟨some (.p2 .d0 .d9), (.ld1 (.t (.p2 .d0 .d8))), none⟩,
  ⟨some (.p2 .d0 .d10), (.eql (.cell (.int .i64)) (.t (.p2 .d0 .d9)) (.k (.i (.ofNat 6)))), none⟩,
  ⟨some (.p2 .d0 .d11), (.mv (.t (.p2 .d0 .d10))), none⟩,
  ⟨some (.p2 .d0 .d12), (.fa (.t (.p2 .d0 .d5)) 0), some ((.p2 .d0 .d11), false)⟩,
  ⟨some (.p2 .d0 .d13), (.ld1 (.t (.p2 .d0 .d12))), some ((.p2 .d0 .d11), false)⟩,
  ⟨some (.p2 .d0 .d14), (.eql (.cell (.int .i64)) (.t (.p2 .d0 .d13)) (.k (.i (.ofNat 2)))), some ((.p2 .d0 .d11), false)⟩,
  ⟨some (.p2 .d0 .d15), (.pick (.t (.p2 .d0 .d11)) (.k (.bool true)) (.t (.p2 .d0 .d14))), none⟩,
  ⟨some (.p2 .d1 .d0), (.mv (.t (.p2 .d0 .d15))), none⟩,
  ⟨some (.p2 .d1 .d1), (.mv (.t (.p2 .d0 .d1))), some ((.p2 .d1 .d0), true)⟩,
  ⟨some (.p2 .d1 .d2), (.fa (.t (.p2 .d0 .d5)) 1), some ((.p2 .d1 .d0), true)⟩,
  ⟨some (.p2 .d1 .d3), (.ld1 (.t (.p2 .d1 .d2))), some ((.p2 .d1 .d0), true)⟩,
  ⟨some (.p2 .d1 .d4), (.call ⟨35, .d0, .d2, .d3⟩ [(.t (.p2 .d1 .d1)), (.t (.p2 .d1 .d3))]), some ((.p2 .d1 .d0), true)⟩,
  ⟨some (.p2 .d1 .d5), (.pick (.t (.p2 .d1 .d0)) (.t (.p2 .d1 .d4)) (.k (.bool false))), none⟩,
  ⟨some (.p2 .d0 .d4), (.mv (.t (.p2 .d1 .d5))), none⟩]) .ret))), [.tmp (.p2 .d0 .d4)]⟩
def cf58 : CF := ⟨58, true, (.seq (.reg [
  ⟨some (.p2 .d0 .d2), (.alloc 43 [(.i (.ofNat 0)), (.i (.ofNat 0)), (.i (.ofNat 0)), (.i (.ofNat 0)), (.str 0 0), .nils]), none⟩]) (.seq (.reg [
  ⟨some (.p2 .d0 .d7), (.mv (.t (.p2 .d0 .d0))), none⟩,
  ⟨some (.p2 .d0 .d8), (.call ⟨54, .d0, .d3, .d6⟩ [(.t (.p2 .d0 .d7)), (.k (.str 6 128034844732777))]), none⟩,
  ⟨some (.p2 .d0 .d9), (.fld (.t (.p2 .d0 .d8)) 2 1 false), none⟩,
  ⟨some (.p2 .d0 .d3), (.mv (.t (.p2 .d0 .d9))), none⟩]) (.seq (.seq (.reg [
  ⟨some (.p2 .d0 .d10), (.mv (.t (.p2 .d0 .d0))), none⟩,
  ⟨some (.p2 .d0 .d11), (.call ⟨90, .d0, .d5, .d10⟩ [(.t (.p2 .d0 .d10))]), none⟩,
  ⟨some (.p2 .d0 .d12), (.fld (.t (.p2 .d0 .d11)) 0 1 false), none⟩,
  ⟨some (.p2 .d0 .d13), (.neq (.cell (.int .i64)) (.t (.p2 .d0 .d12)) (.k (.i (.ofNat 5)))), none⟩]) (.cond (.t (.p2 .d0 .d13)) (.reg [
  ⟨some (.p2 .d0 .d14), (.mv (.t (.p2 .d0 .d0))), none⟩,
  ⟨some (.p2 .d0 .d15), (.call ⟨88, .d0, .d5, .d8⟩ [(.t (.p2 .d0 .d14)), (.k (.i (.ofNat 4)))]), none⟩]) .skip)) (.seq (.reg [
  ⟨some (.p2 .d1 .d1), (.mv (.t (.p2 .d0 .d0))), none⟩,
  ⟨some (.p2 .d1 .d2), (.call ⟨90, .d0, .d5, .d10⟩ [(.t (.p2 .d1 .d1))]), none⟩,
  ⟨some (.p2 .d1 .d3), (.fld (.t (.p2 .d1 .d2)) 1 1 false), none⟩,
  ⟨some (.p2 .d1 .d4), (.call ⟨91, .d0, .d5, .d11⟩ [(.t (.p2 .d1 .d3))]), none⟩,
  ⟨some (.p2 .d1 .d0), (.mv (.t (.p2 .d1 .d4))), none⟩,
  ⟨some (.p2 .d1 .d5), (.ext (.t (.p2 .d1 .d0)) 0), none⟩,
  ⟨some (.p2 .d1 .d6), (.ext (.t (.p2 .d1 .d0)) 1), none⟩,
  ⟨some (.p2 .d0 .d4), (.mv (.t (.p2 .d1 .d5))), none⟩,
  ⟨some (.p2 .d0 .d5), (.mv (.t (.p2 .d1 .d6))), none⟩]) (.seq (.seq (.reg [
  ⟨some (.p2 .d1 .d7), (.mv (.t (.p2 .d0 .d5))), none⟩,
  ⟨some (.p2 .d1 .d8), (.neq (.cell (.int .i64)) (.t (.p2 .d1 .d7)) (.k (.i (.ofNat 0)))), none⟩,
  ⟨some (.p2 .d1 .d9), (.mv (.t (.p2 .d1 .d8))), none⟩,
  ⟨some (.p2 .d1 .d10), (.mv (.t (.p2 .d0 .d4))), some ((.p2 .d1 .d9), false)⟩,
  ⟨some (.p2 .d1 .d11), (.call ⟨82, .d0, .d5, .d2⟩ [(.t (.p2 .d1 .d10))]), some ((.p2 .d1 .d9), false)⟩,
  ⟨some (.p2 .d1 .d12), (.not (.t (.p2 .d1 .d11))), some ((.p2 .d1 .d9), false)⟩,
  ⟨some (.p2 .d1 .d13), (.pick (.t (.p2 .d1 .d9)) (.k (.bool true)) (.t (.p2 .d1 .d12))), none⟩]) (.cond (.t (.p2 .d1 .d13)) (.reg [
  ⟨some (.p2 .d1 .d14), (.mv (.t (.p2 .d0 .d0))), none⟩,
  ⟨some (.p2 .d1 .d15), (.call ⟨88, .d0, .d5, .d8⟩ [(.t (.p2 .d1 .d14)), (.k (.i (.ofNat 9)))]), none⟩]) .skip)) (.seq (.reg [
  ⟨some (.p2 .d2 .d0), (.mv (.t (.p2 .d0 .d0))), none⟩,
  ⟨some (.p2 .d2 .d1), (.call ⟨89, .d0, .d5, .d9⟩ [(.t (.p2 .d2 .d0))]), none⟩,
  ⟨some (.p2 .d0 .d6), (.alloc 80 [(.i (.ofNat 0)), (.str 0 0), (.i (.ofNat 0)), (.i (.ofNat 0))]), none⟩,
  ⟨none, (.st 4 (.t (.p2 .d0 .d6)) (.t (.p2 .d2 .d1))), none⟩]) (.seq (.reg [
  ⟨some (.p2 .d2 .d2), (.mv (.t (.p2 .d0 .d0))), none⟩,
  ⟨some (.p2 .d2 .d3), (.mv (.t (.p2 .d0 .d3))), none⟩,
  ⟨some (.p2 .d2 .d4), (.fa (.t (.p2 .d0 .d6)) 2), none⟩,
  ⟨some (.p2 .d2 .d5), (.ld1 (.t (.p2 .d2 .d4))), none⟩,
  ⟨some (.p2 .d2 .d6), (.mv (.t (.p2 .d0 .d4))), none⟩,
  ⟨some (.p2 .d2 .d7), (.call ⟨92, .d0, .d5, .d12⟩ [(.t (.p2 .d2 .d2)), (.k (.i (.ofNat 2))), (.t (.p2 .d2 .d3)), (.t (.p2 .d2 .d5)), (.t (.p2 .d2 .d6)), (.k .nils)]), none⟩,
  ⟨none, (.st 6 (.t (.p2 .d0 .d2)) (.t (.p2 .d2 .d7))), none⟩]) .ret))))))), [.cell 6 true (.p2 .d0 .d2)]⟩
def cf59 : CF := ⟨59, true, (.seq (.reg [
  ⟨some (.p2 .d0 .d2), (.alloc 43 [(.i (.ofNat 0)), (.i (.ofNat 0)), (.i (.ofNat 0)), (.i (.ofNat 0)), (.str 0 0), .nils]), none⟩]) (.seq (.reg [
  ⟨some (.p2 .d0 .d6), (.mv (.t (.p2 .d0 .d0))), none⟩,
  ⟨some (.p2 .d0 .d7), (.call ⟨54, .d0, .d3, .d6⟩ [(.t (.p2 .d0 .d6)), (.k (.str 4 1701869940))]), none⟩,
  ⟨some (.p2 .d0 .d8), (.fld (.t (.p2 .d0 .d7)) 2 1 false), none⟩,
  ⟨some (.p2 .d0 .d3), (.mv (.t (.p2 .d0 .d8))), none⟩]) (.seq (.reg [
  ⟨some (.p2 .d0 .d9), (.mv (.t (.p2 .d0 .d0))), none⟩,
  ⟨some (.p2 .d0 .d10), (.call ⟨55, .d0, .d3, .d7⟩ [(.t (.p2 .d0 .d9)), (.k (.i (.ofNat 1)))]), none⟩,
  ⟨some (.p2 .d0 .d4), (.alloc 80 [(.i (.ofNat 0)), (.str 0 0), (.i (.ofNat 0)), (.i (.ofNat 0))]), none⟩,
  ⟨none, (.st 4 (.t (.p2 .d0 .d4)) (.t (.p2 .d0 .d10))), none⟩]) (.seq (.reg [
  ⟨some (.p2 .d0 .d11), (.mv (.t (.p2 .d0 .d0))), none⟩,
  ⟨some (.p2 .d0 .d12), (.call ⟨54, .d0, .d3, .d6⟩ [(.t (.p2 .d0 .d11)), (.k (.str 6 127970521019507))]), none⟩]) (.seq (.reg [
  ⟨some (.p2 .d0 .d13), (.mv (.t (.p2 .d0 .d0))), none⟩,
  ⟨some (.p2 .d0 .d14), (.mv (.t (.p2 .d0 .d0))), none⟩,
  ⟨some (.p2 .d0 .d15), (.mkf ⟨56, .d0, .d3, .d8⟩ [(.t (.p2 .d0 .d14))] []), none⟩,
  ⟨some (.p2 .d1 .d0), (.mv (.t (.p2 .d0 .d0))), none⟩,
  ⟨some (.p2 .d1 .d1), (.call ⟨94, .d0, .d5, .d14⟩ [(.t (.p2 .d1 .d0)), (.k (.i (.ofNat 4)))]), none⟩,
  ⟨some (.p2 .d1 .d2), (.call ⟨93, .d0, .d5, .d13⟩ [(.t (.p2 .d0 .d13)), (.k (.str 1 123)), (.k (.str 1 125)), (.t (.p2 .d0 .d15)), (.t (.p2 .d1 .d1))]), none⟩,
  ⟨some (.p2 .d0 .d5), (.mv (.t (.p2 .d1 .d2))), none⟩]) (.seq (.reg [
  ⟨some (.p2 .d1 .d3), (.mv (.t (.p2 .d0 .d0))), none⟩,
  ⟨some (.p2 .d1 .d4), (.mv (.t (.p2 .d0 .d3))), none⟩,
  ⟨some (.p2 .d1 .d5), (.fa (.t (.p2 .d0 .d4)) 2), none⟩,
  ⟨some (.p2 .d1 .d6), (.ld1 (.t (.p2 .d1 .d5))), none⟩,
  ⟨some (.p2 .d1 .d7), (.fa (.t (.p2 .d0 .d4)) 1), none⟩,
  ⟨some (.p2 .d1 .d8), (.ld1 (.t (.p2 .d1 .d7))), none⟩,
  ⟨some (.p2 .d1 .d9), (.mv (.t (.p2 .d0 .d5))), none⟩,
  ⟨some (.p2 .d1 .d10), (.call ⟨92, .d0, .d5, .d12⟩ [(.t (.p2 .d1 .d3)), (.k (.i (.ofNat 3))), (.t (.p2 .d1 .d4)), (.t (.p2 .d1 .d6)), (.t (.p2 .d1 .d8)), (.t (.p2 .d1 .d9))]), none⟩,
  ⟨none, (.st 6 (.t (.p2 .d0 .d2)) (.t (.p2 .d1 .d10))), none⟩]) .ret)))))), [.cell 6 true (.p2 .d0 .d2)]⟩
def cf60 : CF := ⟨60, true, (.seq (.reg [
  ⟨some (.p2 .d0 .d2), (.alloc 43 [(.i (.ofNat 0)), (.i (.ofNat 0)), (.i (.ofNat 0)), (.i (.ofNat 0)), (.str 0 0), .nils]), none⟩]) (.seq (.reg [
  ⟨some (.p2 .d0 .d11), (.mv (.t (.p2 .d0 .d0))), none⟩,
  ⟨some (.p2 .d0 .d12), (.call ⟨54, .d0, .d3, .d6⟩ [(.t (.p2 .d0 .d11)), (.k (.str 4 1668183398))]), none⟩,
  ⟨some (.p2 .d0 .d13), (.fld (.t (.p2 .d0 .d12)) 2 1 false), none⟩,
  ⟨some (.p2 .d0 .d3), (.mv (.t (.p2 .d0 .d13))), none⟩]) (.seq (.reg [
  ⟨some (.p2 .d0 .d4), (.alloc 43 [(.i (.ofNat 0)), (.i (.ofNat 0)), (.i (.ofNat 0)), (.i (.ofNat 0)), (.str 0 0), .nils]), none⟩,
  ⟨some (.p2 .d0 .d5), (.alloc 43 [(.i (.ofNat 0)), (.i (.ofNat 0)), (.i (.ofNat 0)), (.i (.ofNat 0)), (.str 0 0), .nils]), none⟩]) (.seq (.seq (.reg [
  ⟨some (.p2 .d0 .d14), (.mv (.t (.p2 .d0 .d0))), none⟩,
  ⟨some (.p2 .d0 .d15), (.bslice 9 1 1 [(.str 0 0)] [(0, (.k (.str 1 40)))]), none⟩,
  ⟨some (.p2 .d1 .d0), (.call ⟨57, .d0, .d3, .d9⟩ [(.t (.p2 .d0 .d14)), (.t (.p2 .d0 .d15))]), none⟩]) (.cond (.t (.p2 .d1 .d0)) (.reg [
  ⟨some (.p2 .d1 .d1), (.mv (.t (.p2 .d0 .d0))), none⟩,
  ⟨some (.p2 .d1 .d2), (.call ⟨95, .d0, .d5, .d15⟩ [(.t (.p2 .d1 .d1))]), none⟩,
  ⟨none, (.st 6 (.t (.p2 .d0 .d4)) (.t (.p2 .d1 .d2))), none⟩]) .skip)) (.seq (.reg [
  ⟨some (.p2 .d1 .d3), (.mv (.t (.p2 .d0 .d0))), none⟩,
  ⟨some (.p2 .d1 .d4), (.call ⟨55, .d0, .d3, .d7⟩ [(.t (.p2 .d1 .d3)), (.k (.i (.ofNat 1)))]), none⟩,
  ⟨some (.p2 .d0 .d6), (.alloc 80 [(.i (.ofNat 0)), (.str 0 0), (.i (.ofNat 0)), (.i (.ofNat 0))]), none⟩,
  ⟨none, (.st 4 (.t (.p2 .d0 .d6)) (.t (.p2 .d1 .d4))), none⟩]) (.seq (.reg [
  ⟨some (.p2 .d1 .d5), (.mv (.t (.p2 .d0 .d0))), none⟩,
  ⟨some (.p2 .d1 .d6), (.call ⟨90, .d0, .d5, .d10⟩ [(.t (.p2 .d1 .d5))]), none⟩,
  ⟨some (.p2 .d1 .d7), (.fld (.t (.p2 .d1 .d6)) 2 1 false), none⟩,
  ⟨some (.p2 .d0 .d7), (.mv (.t (.p2 .d1 .d7))), none⟩]) (.seq (.reg [
  ⟨some (.p2 .d1 .d8), (.mv (.t (.p2 .d0 .d0))), none⟩,
  ⟨some (.p2 .d1 .d9), (.mv (.t (.p2 .d0 .d0))), none⟩,
  ⟨some (.p2 .d1 .d10), (.call ⟨96, .d0, .d6, .d0⟩ [(.t (.p2 .d1 .d9)), (.k (.str 1 41))]), none⟩,
  ⟨some (.p2 .d1 .d11), (.mv (.t (.p2 .d0 .d0))), none⟩,
  ⟨some (.p2 .d1 .d12), (.call ⟨94, .d0, .d5, .d14⟩ [(.t (.p2 .d1 .d11)), (.k (.i (.ofNat 7)))]), none⟩,
  ⟨some (.p2 .d1 .d13), (.call ⟨93, .d0, .d5, .d13⟩ [(.t (.p2 .d1 .d8)), (.k (.str 1 40)), (.k (.str 1 41)), (.t (.p2 .d1 .d10)), (.t (.p2 .d1 .d12))]), none⟩,
  ⟨some (.p2 .d0 .d8), (.mv (.t (.p2 .d1 .d13))), none⟩]) (.seq (.reg [
  ⟨some (.p2 .d1 .d14), (.mv (.t (.p2 .d0 .d0))), none⟩,
  ⟨some (.p2 .d1 .d15), (.mv (.t (.p2 .d0 .d7))), none⟩,
  ⟨some (.p2 .d2 .d0), (.mv (.t (.p2 .d0 .d7))), none⟩,
  ⟨some (.p2 .d2 .d1), (.mv (.t (.p2 .d0 .d8))), none⟩,
  ⟨some (.p2 .d2 .d2), (.call ⟨92, .d0, .d5, .d12⟩ [(.t (.p2 .d1 .d14)), (.k (.i (.ofNat 6))), (.t (.p2 .d1 .d15)), (.t (.p2 .d2 .d0)), (.k (.str 0 0)), (.t (.p2 .d2 .d1))]), none⟩,
  ⟨some (.p2 .d0 .d9), (.alloc 43 [(.i (.ofNat 0)), (.i (.ofNat 0)), (.i (.ofNat 0)), (.i (.ofNat 0)), (.str 0 0), .nils]), none⟩,
  ⟨none, (.st 6 (.t (.p2 .d0 .d9)) (.t (.p2 .d2 .d2))), none⟩]) (.seq (.seq (.reg [
  ⟨some (.p2 .d2 .d3), (.mv (.t (.p2 .d0 .d0))), none⟩,
  ⟨some (.p2 .d2 .d4), (.bslice 9 1 1 [(.str 0 0)] [(0, (.k (.str 1 123)))]), none⟩,
  ⟨some (.p2 .d2 .d5), (.call ⟨57, .d0, .d3, .d9⟩ [(.t (.p2 .d2 .d3)), (.t (.p2 .d2 .d4))]), none⟩,
  ⟨some (.p2 .d2 .d6), (.not (.t (.p2 .d2 .d5))), none⟩]) (.cond (.t (.p2 .d2 .d6)) (.reg [
  ⟨some (.p2 .d2 .d7), (.mv (.t (.p2 .d0 .d0))), none⟩,
  ⟨some (.p2 .d2 .d8), (.call ⟨97, .d0, .d6, .d1⟩ [(.t (.p2 .d2 .d7))]), none⟩,
  ⟨none, (.st 6 (.t (.p2 .d0 .d5)) (.t (.p2 .d2 .d8))), none⟩]) .skip)) (.seq (.reg [
  ⟨some (.p2 .d2 .d9), (.mv (.t (.p2 .d0 .d0))), none⟩,
  ⟨some (.p2 .d2 .d10), (.call ⟨98, .d0, .d6, .d2⟩ [(.t (.p2 .d2 .d9))]), none⟩,
  ⟨some (.p2 .d0 .d10), (.alloc 43 [(.i (.ofNat 0)), (.i (.ofNat 0)), (.i (.ofNat 0)), (.i (.ofNat 0)), (.str 0 0), .nils]), none⟩,
  ⟨none, (.st 6 (.t (.p2 .d0 .d10)) (.t (.p2 .d2 .d10))), none⟩]) (.seq (.reg [
  ⟨some (.p2 .d2 .d11), (.mv (.t (.p2 .d0 .d0))), none⟩,
  ⟨some (.p2 .d2 .d12), (.mv (.t (.p2 .d0 .d3))), none⟩,
  ⟨some (.p2 .d2 .d13), (.fa (.t (.p2 .d0 .d6)) 2), none⟩,
  ⟨some (.p2 .d2 .d14), (.ld1 (.t (.p2 .d2 .d13))), none⟩,
  ⟨some (.p2 .d2 .d15), (.fa (.t (.p2 .d0 .d6)) 1), none⟩,
  ⟨some (.p2 .d3 .d0), (.ld1 (.t (.p2 .d2 .d15))), none⟩,
  ⟨some (.p2 .d3 .d1), (.ldn 6 (.t (.p2 .d0 .d4))), none⟩,
  ⟨some (.p2 .d3 .d2), (.ldn 6 (.t (.p2 .d0 .d9))), none⟩,
  ⟨some (.p2 .d3 .d3), (.ldn 6 (.t (.p2 .d0 .d5))), none⟩,
  ⟨some (.p2 .d3 .d4), (.ldn 6 (.t (.p2 .d0 .d10))), none⟩,
  ⟨some (.p2 .d3 .d5), (.bslice 43 6 4 [(.i (.ofNat 0)), (.i (.ofNat 0)), (.i (.ofNat 0)), (.i (.ofNat 0)), (.str 0 0), .nils] [(0, (.t (.p2 .d3 .d1))), (1, (.t (.p2 .d3 .d2))), (2, (.t (.p2 .d3 .d3))), (3, (.t (.p2 .d3 .d4)))]), none⟩,
  ⟨some (.p2 .d3 .d6), (.call ⟨92, .d0, .d5, .d12⟩ [(.t (.p2 .d2 .d11)), (.k (.i (.ofNat 5))), (.t (.p2 .d2 .d12)), (.t (.p2 .d2 .d14)), (.t (.p2 .d3 .d0)), (.t (.p2 .d3 .d5))]), none⟩,
  ⟨none, (.st 6 (.t (.p2 .d0 .d2)) (.t (.p2 .d3 .d6))), none⟩]) .ret))))))))))), [.cell 6 true (.p2 .d0 .d2)]⟩
def cf61 : CF := ⟨61, true, (.seq (.reg [
  ⟨some (.p2 .d0 .d2), (.mv (.k (.i (.ofNat 0)))), none⟩]) (.seq (.reg [
  ⟨some (.p2 .d0 .d3), (.mv (.k (.i (.ofNat 0)))), none⟩]) (.seq (.seq (.reg [
  ⟨some (.p2 .d0 .d6), (.mv (.t (.p2 .d0 .d0))), none⟩,
  ⟨some (.p2 .d0 .d7), (.len 1 (.t (.p2 .d0 .d6))), none⟩,
  ⟨some (.p2 .d0 .d8), (.mv (.k (.i (.ofNat 0)))), none⟩]) (.block 0 (.loop (.seq (.reg [
  ⟨some (.p2 .d0 .d9), (.lss (.t (.p2 .d0 .d8)) (.t (.p2 .d0 .d7))), none⟩]) (.seq (.cond (.t (.p2 .d0 .d9)) .skip (.exit 0)) (.seq (.block 1 (.seq (.reg [
  ⟨some (.p2 .d0 .d10), (.ia 1 (.t (.p2 .d0 .d6)) (.t (.p2 .d0 .d8))), none⟩,
  ⟨some (.p2 .d0 .d11), (.ld1 (.t (.p2 .d0 .d10))), none⟩,
  ⟨some (.p2 .d0 .d5), (.mv (.t (.p2 .d0 .d11))), none⟩]) (.seq (.reg [
  ⟨some (.p2 .d0 .d12), (.mv (.t (.p2 .d0 .d5))), none⟩,
  ⟨some (.p2 .d0 .d13), (.mv (.t (.p2 .d0 .d3))), none⟩,
  ⟨some (.p2 .d0 .d14), (.neq (.cell (.int .i64)) (.t (.p2 .d0 .d12)) (.t (.p2 .d0 .d13))), none⟩]) (.cond (.t (.p2 .d0 .d14)) (.seq (.reg [
  ⟨some (.p2 .d0 .d15), (.mv (.t (.p2 .d0 .d5))), none⟩,
  ⟨some (.p2 .d0 .d2), (.mv (.t (.p2 .d0 .d15))), none⟩]) .ret) .skip)))) (.reg [
  ⟨some (.p2 .d1 .d0), (.add (.t (.p2 .d0 .d8)) (.k (.i (.ofNat 1)))), none⟩,
  ⟨some (.p2 .d0 .d8), (.mv (.t (.p2 .d1 .d0))), none⟩]))))))) (.seq (.reg [
  ⟨some (.p2 .d1 .d1), (.mv (.t (.p2 .d0 .d3))), none⟩,
  ⟨some (.p2 .d0 .d2), (.mv (.t (.p2 .d1 .d1))), none⟩]) .ret)))), [.tmp (.p2 .d0 .d2)]⟩
def cf62 : CF := ⟨62, true, (.seq (.reg [
  ⟨some (.p2 .d0 .d4), (.mv (.k (.i (.ofNat 0)))), none⟩]) (.seq (.reg [
  ⟨some (.p2 .d0 .d7), (.mv (.t (.p2 .d0 .d0))), none⟩,
  ⟨some (.p2 .d0 .d8), (.call ⟨99, .d0, .d6, .d3⟩ [(.t (.p2 .d0 .d7))]), none⟩,
  ⟨some (.p2 .d0 .d5), (.mv (.t (.p2 .d0 .d8))), none⟩]) (.seq (.reg [
  ⟨some (.p2 .d0 .d9), (.mv (.t (.p2 .d0 .d1))), none⟩,
  ⟨some (.p2 .d0 .d10), (.call ⟨99, .d0, .d6, .d3⟩ [(.t (.p2 .d0 .d9))]), none⟩,
  ⟨some (.p2 .d0 .d6), (.mv (.t (.p2 .d0 .d10))), none⟩]) (.seq (.seq (.reg [
  ⟨some (.p2 .d0 .d11), (.mv (.t (.p2 .d0 .d5))), none⟩]) (.cond (.t (.p2 .d0 .d11)) (.seq (.seq (.reg [
  ⟨some (.p2 .d0 .d12), (.mv (.t (.p2 .d0 .d6))), none⟩]) (.cond (.t (.p2 .d0 .d12)) (.seq (.reg [
  ⟨some (.p2 .d0 .d4), (.mv (.k (.i (.ofNat 0)))), none⟩]) .ret) .skip)) (.seq (.reg [
  ⟨some (.p2 .d0 .d4), (.mv (.k (.i (.negSucc 0)))), none⟩]) .ret)) .skip)) (.seq (.seq (.reg [
  ⟨some (.p2 .d0 .d13), (.mv (.t (.p2 .d0 .d6))), none⟩]) (.cond (.t (.p2 .d0 .d13)) (.seq (.reg [
  ⟨some (.p2 .d0 .d4), (.mv (.k (.i (.ofNat 1)))), none⟩]) .ret) .skip)) (.seq (.seq (.reg [
  ⟨some (.p2 .d0 .d14), (.mv (.t (.p2 .d0 .d0))), none⟩,
  ⟨some (.p2 .d0 .d15), (.mv (.t (.p2 .d0 .d1))), none⟩,
  ⟨some (.p2 .d1 .d0), (.lss (.t (.p2 .d0 .d14)) (.t (.p2 .d0 .d15))), none⟩]) (.cond (.t (.p2 .d1 .d0)) (.seq (.reg [
  ⟨some (.p2 .d0 .d4), (.mv (.k (.i (.negSucc 0)))), none⟩]) .ret) .skip)) (.seq (.seq (.reg [
  ⟨some (.p2 .d1 .d1), (.mv (.t (.p2 .d0 .d0))), none⟩,
  ⟨some (.p2 .d1 .d2), (.mv (.t (.p2 .d0 .d1))), none⟩,
  ⟨some (.p2 .d1 .d3), (.gtr (.t (.p2 .d1 .d1)) (.t (.p2 .d1 .d2))), none⟩]) (.cond (.t (.p2 .d1 .d3)) (.seq (.reg [
  ⟨some (.p2 .d0 .d4), (.mv (.k (.i (.ofNat 1)))), none⟩]) .ret) .skip)) (.seq (.reg [
  ⟨some (.p2 .d0 .d4), (.mv (.k (.i (.ofNat 0)))), none⟩]) .ret)))))))), [.tmp (.p2 .d0 .d4)]⟩
def cf63 : CF := ⟨63, true, (.seq (.reg [
  ⟨some (.p2 .d0 .d4), (.mv (.k (.i (.ofNat 0)))), none⟩]) (.seq (.reg [
  ⟨some (.p2 .d0 .d7), (.mv (.t (.p2 .d0 .d0))), none⟩,
  ⟨some (.p2 .d0 .d8), (.call ⟨100, .d0, .d6, .d4⟩ [(.t (.p2 .d0 .d7))]), none⟩,
  ⟨some (.p2 .d0 .d5), (.mv (.t (.p2 .d0 .d8))), none⟩]) (.seq (.reg [
  ⟨some (.p2 .d0 .d9), (.mv (.t (.p2 .d0 .d1))), none⟩,
  ⟨some (.p2 .d0 .d10), (.call ⟨100, .d0, .d6, .d4⟩ [(.t (.p2 .d0 .d9))]), none⟩,
  ⟨some (.p2 .d0 .d6), (.mv (.t (.p2 .d0 .d10))), none⟩]) (.seq (.seq (.reg [
  ⟨some (.p2 .d0 .d11), (.mv (.t (.p2 .d0 .d5))), none⟩]) (.cond (.t (.p2 .d0 .d11)) (.seq (.seq (.reg [
  ⟨some (.p2 .d0 .d12), (.mv (.t (.p2 .d0 .d6))), none⟩]) (.cond (.t (.p2 .d0 .d12)) (.seq (.reg [
  ⟨some (.p2 .d0 .d4), (.mv (.k (.i (.ofNat 0)))), none⟩]) .ret) .skip)) (.seq (.reg [
  ⟨some (.p2 .d0 .d4), (.mv (.k (.i (.negSucc 0)))), none⟩]) .ret)) .skip)) (.seq (.seq (.reg [
  ⟨some (.p2 .d0 .d13), (.mv (.t (.p2 .d0 .d6))), none⟩]) (.cond (.t (.p2 .d0 .d13)) (.seq (.reg [
  ⟨some (.p2 .d0 .d4), (.mv (.k (.i (.ofNat 1)))), none⟩]) .ret) .skip)) (.seq (.seq (.reg [
  ⟨some (.p2 .d0 .d14), (.mv (.t (.p2 .d0 .d0))), none⟩,
  ⟨some (.p2 .d0 .d15), (.mv (.t (.p2 .d0 .d1))), none⟩,
  ⟨some (.p2 .d1 .d0), (.lss (.t (.p2 .d0 .d14)) (.t (.p2 .d0 .d15))), none⟩]) (.cond (.t (.p2 .d1 .d0)) (.seq (.reg [
  ⟨some (.p2 .d0 .d4), (.mv (.k (.i (.negSucc 0)))), none⟩]) .ret) .skip)) (.seq (.seq (.reg [
  ⟨some (.p2 .d1 .d1), (.mv (.t (.p2 .d0 .d0))), none⟩,
  ⟨some (.p2 .d1 .d2), (.mv (.t (.p2 .d0 .d1))), none⟩,
  ⟨some (.p2 .d1 .d3), (.gtr (.t (.p2 .d1 .d1)) (.t (.p2 .d1 .d2))), none⟩]) (.cond (.t (.p2 .d1 .d3)) (.seq (.reg [
  ⟨some (.p2 .d0 .d4), (.mv (.k (.i (.ofNat 1)))), none⟩]) .ret) .skip)) (.seq (.reg [
  ⟨some (.p2 .d0 .d4), (.mv (.k (.i (.ofNat 0)))), none⟩]) .ret)))))))), [.tmp (.p2 .d0 .d4)]⟩
def cf64 : CF := ⟨64, true, (.seq (.reg [
  ⟨some (.p2 .d0 .d4), (.mv (.k (.i (.ofNat 0)))), none⟩]) (.seq (.seq (.reg [
  ⟨some (.p2 .d0 .d6), (.mv (.t (.p2 .d0 .d0))), none⟩,
  ⟨some (.p2 .d0 .d7), (.len 1 (.t (.p2 .d0 .d6))), none⟩,
  ⟨some (.p2 .d0 .d8), (.mv (.k (.i (.ofNat 0)))), none⟩]) (.block 0 (.loop (.seq (.reg [
  ⟨some (.p2 .d0 .d9), (.lss (.t (.p2 .d0 .d8)) (.t (.p2 .d0 .d7))), none⟩]) (.seq (.cond (.t (.p2 .d0 .d9)) .skip (.exit 0)) (.seq (.block 1 (.seq (.reg [
  ⟨some (.p2 .d0 .d10), (.mv (.t (.p2 .d0 .d8))), none⟩,
  ⟨some (.p2 .d0 .d5), (.mv (.t (.p2 .d0 .d10))), none⟩]) (.seq (.reg [
  ⟨some (.p2 .d0 .d11), (.mv (.t (.p2 .d0 .d1))), none⟩,
  ⟨some (.p2 .d0 .d12), (.mv (.t (.p2 .d0 .d0))), none⟩,
  ⟨some (.p2 .d0 .d13), (.mv (.t (.p2 .d0 .d5))), none⟩,
  ⟨some (.p2 .d0 .d14), (.ia 1 (.t (.p2 .d0 .d12)) (.t (.p2 .d0 .d13))), none⟩,
  ⟨some (.p2 .d0 .d15), (.ld1 (.t (.p2 .d0 .d14))), none⟩,
  ⟨some (.p2 .d1 .d0), (.eql (.cell .str) (.t (.p2 .d0 .d11)) (.t (.p2 .d0 .d15))), none⟩]) (.cond (.t (.p2 .d1 .d0)) (.seq (.reg [
  ⟨some (.p2 .d1 .d1), (.mv (.t (.p2 .d0 .d5))), none⟩,
  ⟨some (.p2 .d0 .d4), (.mv (.t (.p2 .d1 .d1))), none⟩]) .ret) .skip)))) (.reg [
  ⟨some (.p2 .d1 .d2), (.add (.t (.p2 .d0 .d8)) (.k (.i (.ofNat 1)))), none⟩,
  ⟨some (.p2 .d0 .d8), (.mv (.t (.p2 .d1 .d2))), none⟩]))))))) (.seq (.reg [
  ⟨some (.p2 .d0 .d4), (.mv (.k (.i (.negSucc 0)))), none⟩]) .ret))), [.tmp (.p2 .d0 .d4)]⟩
def cf65 : CF := ⟨65, true, (.seq (.reg [
  ⟨some (.p2 .d0 .d7), (.box 43 6 (.t (.p2 .d0 .d3))), none⟩,
  ⟨some (.p2 .d0 .d8), (.alloc 35 [(.i (.ofNat 0)), (.str 0 0), (.i (.ofNat 0)), (.i (.ofNat 0)), (.str 0 0)]), none⟩]) (.seq (.dreg [
  ⟨0, ⟨some (.p2 .d0 .d10), (.mv (.t (.p2 .d0 .d1))), none⟩, .pur, 0⟩,
  ⟨1, ⟨some (.p2 .d0 .d11), (.fa (.t (.p2 .d0 .d7)) 4), none⟩, .pur, 0⟩,
  ⟨2, ⟨some (.p2 .d0 .d12), (.ld1 (.t (.p2 .d0 .d11))), none⟩, .rd, 1⟩,
  ⟨3, ⟨some (.p2 .d0 .d13), (.mv (.t (.p2 .d0 .d2))), none⟩, .pur, 0⟩,
  ⟨4, ⟨some (.p2 .d0 .d14), (.fa (.t (.p2 .d0 .d7)) 3), none⟩, .pur, 0⟩,
  ⟨5, ⟨some (.p2 .d0 .d15), (.ld1 (.t (.p2 .d0 .d14))), none⟩, .rd, 1⟩,
  ⟨6, ⟨some (.p2 .d1 .d0), (.mv (.t (.p2 .d0 .d0))), none⟩, .pur, 0⟩,
  ⟨7, ⟨some (.p2 .d1 .d1), (.nilc (.t (.p2 .d1 .d0))), none⟩, .pur, 0⟩,
  ⟨8, ⟨some (.p2 .d1 .d2), (.fa (.t (.p2 .d1 .d1)) 2), none⟩, .pur, 0⟩,
  ⟨9, ⟨some (.p2 .d1 .d3), (.ld1 (.t (.p2 .d1 .d2))), none⟩, .rd, 1⟩,
  ⟨10, ⟨some (.p2 .d1 .d4), (.mv (.t (.p2 .d0 .d2))), none⟩, .pur, 0⟩,
  ⟨11, ⟨some (.p2 .d1 .d5), (.ia 1 (.t (.p2 .d1 .d3)) (.t (.p2 .d1 .d4))), none⟩, .pur, 0⟩,
  ⟨12, ⟨some (.p2 .d1 .d6), (.ld1 (.t (.p2 .d1 .d5))), none⟩, .rd, 1⟩,
  ⟨13, ⟨some (.p2 .d1 .d7), (.build [(.i (.ofNat 0)), (.str 0 0), (.i (.ofNat 0)), (.i (.ofNat 0)), (.str 0 0)] [(0, 1, (.t (.p2 .d0 .d10))), (1, 1, (.t (.p2 .d0 .d12))), (2, 1, (.t (.p2 .d0 .d13))), (3, 1, (.t (.p2 .d0 .d15))), (4, 1, (.t (.p2 .d1 .d6)))]), none⟩, .pur, 0⟩,
  ⟨14, ⟨some (.p2 .d0 .d9), (.alloc 35 [(.i (.ofNat 0)), (.str 0 0), (.i (.ofNat 0)), (.i (.ofNat 0)), (.str 0 0)]), none⟩, .ev, 0⟩,
  ⟨15, ⟨none, (.st 5 (.t (.p2 .d0 .d9)) (.t (.p2 .d1 .d7))), none⟩, .ev, 1⟩]) (.seq (.seq (.reg [
  ⟨some (.p2 .d1 .d8), (.mv (.t (.p2 .d0 .d1))), none⟩,
  ⟨some (.p2 .d1 .d9), (.eql (.cell (.int .i64)) (.t (.p2 .d1 .d8)) (.k (.i (.ofNat 1)))), none⟩]) (.cond (.t (.p2 .d1 .d9)) (.reg [
  ⟨some (.p2 .d1 .d10), (.fa (.t (.p2 .d0 .d7)) 4), none⟩,
  ⟨some (.p2 .d1 .d11), (.ld1 (.t (.p2 .d1 .d10))), none⟩,
  ⟨some (.p2 .d1 .d12), (.fa (.t (.p2 .d0 .d9)) 4), none⟩,
  ⟨none, (.st 1 (.t (.p2 .d1 .d12)) (.t (.p2 .d1 .d11))), none⟩]) .skip)) (.seq (.dreg [
  ⟨0, ⟨some (.p2 .d1 .d13), (.mv (.t (.p2 .d0 .d0))), none⟩, .pur, 0⟩,
  ⟨1, ⟨some (.p2 .d1 .d14), (.nilc (.t (.p2 .d1 .d13))), none⟩, .pur, 0⟩,
  ⟨2, ⟨some (.p2 .d1 .d15), (.fa (.t (.p2 .d1 .d14)) 6), none⟩, .pur, 0⟩,
  ⟨3, ⟨some (.p2 .d2 .d0), (.ld1 (.t (.p2 .d1 .d15))), none⟩, .rd, 0⟩,
  ⟨4, ⟨some (.p2 .d2 .d1), (.ldn 5 (.t (.p2 .d0 .d9))), none⟩, .rd, 0⟩,
  ⟨5, ⟨some (.p2 .d2 .d2), (.ldn 6 (.t (.p2 .d0 .d7))), none⟩, .rd, 0⟩,
  ⟨6, ⟨none, (.mupd (.strct [(.int .i64), .str, (.int .i64), (.int .i64), .str]) (.t (.p2 .d2 .d0)) (.t (.p2 .d2 .d1)) (.t (.p2 .d2 .d2))), none⟩, .ev, 0⟩]) (.seq (.reg [
  ⟨some (.p2 .d2 .d3), (.ldn 5 (.t (.p2 .d0 .d9))), none⟩,
  ⟨none, (.st 5 (.t (.p2 .d0 .d8)) (.t (.p2 .d2 .d3))), none⟩]) .ret))))), [.cell 5 true (.p2 .d0 .d8)]⟩
def cf66 : CF := ⟨66, true, (.seq (.reg [
  ⟨some (.p2 .d0 .d4), (.mv (.k (.str 0 0))), none⟩]) (.seq (.reg [
  ⟨some (.p2 .d0 .d5), (.mv (.t (.p2 .d0 .d0))), none⟩,
  ⟨some (.p2 .d0 .d6), (.add (.t (.p2 .d0 .d5)) (.k (.str 1 32))), none⟩,
  ⟨some (.p2 .d0 .d7), (.mv (.t (.p2 .d0 .d1))), none⟩,
  ⟨some (.p2 .d0 .d8), (.add (.t (.p2 .d0 .d6)) (.t (.p2 .d0 .d7))), none⟩,
  ⟨some (.p2 .d0 .d4), (.mv (.t (.p2 .d0 .d8))), none⟩]) .ret)), [.tmp (.p2 .d0 .d4)]⟩
def cf67 : CF := ⟨67, true, (.seq (.reg [
  ⟨some (.p2 .d0 .d8), .mkmap, none⟩,
  ⟨some (.p2 .d0 .d4), (.mv (.t (.p2 .d0 .d8))), none⟩]) (.seq (.reg [
  ⟨some (.p2 .d0 .d9), (.mv (.t (.p2 .d0 .d1))), none⟩,
  ⟨some (.p2 .d0 .d10), (.call ⟨41, .d0, .d2, .d9⟩ [(.t (.p2 .d0 .d9))]), none⟩,
  ⟨some (.p2 .d0 .d5), (.mv (.t (.p2 .d0 .d10))), none⟩]) (.seq (.reg [
  ⟨some (.p2 .d0 .d11), (.mv (.t (.p2 .d0 .d5))), none⟩,
  ⟨some (.p2 .d0 .d12), (.call ⟨101, .d0, .d6, .d5⟩ [(.t (.p2 .d0 .d11)), (.k (.func ⟨102, .d0, .d6, .d6⟩ [] []))]), none⟩]) (.seq (.reg [
  ⟨some (.p2 .d0 .d13), (.mv (.t (.p2 .d0 .d5))), none⟩,
  ⟨some (.p2 .d0 .d14), (.len 1 (.t (.p2 .d0 .d13))), none⟩,
  ⟨some (.p2 .d0 .d15), (.mv (.k (.i (.ofNat 0)))), none⟩]) (.block 0 (.loop (.seq (.reg [
  ⟨some (.p2 .d1 .d0), (.lss (.t (.p2 .d0 .d15)) (.t (.p2 .d0 .d14))), none⟩]) (.seq (.cond (.t (.p2 .d1 .d0)) .skip (.exit 0)) (.seq (.block 1 (.seq (.reg [
  ⟨some (.p2 .d1 .d1), (.ia 5 (.t (.p2 .d0 .d13)) (.t (.p2 .d0 .d15))), none⟩,
  ⟨some (.p2 .d1 .d2), (.ldn 5 (.t (.p2 .d1 .d1))), none⟩,
  ⟨some (.p2 .d0 .d7), (.alloc 35 [(.i (.ofNat 0)), (.str 0 0), (.i (.ofNat 0)), (.i (.ofNat 0)), (.str 0 0)]), none⟩,
  ⟨none, (.st 5 (.t (.p2 .d0 .d7)) (.t (.p2 .d1 .d2))), none⟩]) (.seq (.reg [
  ⟨some (.p2 .d1 .d3), (.mv (.t (.p2 .d0 .d4))), none⟩,
  ⟨some (.p2 .d1 .d4), (.fa (.t (.p2 .d0 .d7)) 1), none⟩,
  ⟨some (.p2 .d1 .d5), (.ld1 (.t (.p2 .d1 .d4))), none⟩,
  ⟨some (.p2 .d1 .d6), (.lkp (.cell .str) (.i (.ofNat 0)) (.t (.p2 .d1 .d3)) (.t (.p2 .d1 .d5)) false), none⟩,
  ⟨some (.p2 .d1 .d7), (.add (.t (.p2 .d1 .d6)) (.k (.i (.ofNat 1)))), none⟩,
  ⟨none, (.mupd (.cell .str) (.t (.p2 .d1 .d3)) (.t (.p2 .d1 .d5)) (.t (.p2 .d1 .d7))), none⟩]) (.seq (.reg [
  ⟨some (.p2 .d1 .d8), (.mv (.t (.p2 .d0 .d4))), none⟩,
  ⟨some (.p2 .d1 .d9), (.fa (.t (.p2 .d0 .d7)) 1), none⟩,
  ⟨some (.p2 .d1 .d10), (.ld1 (.t (.p2 .d1 .d9))), none⟩,
  ⟨some (.p2 .d1 .d11), (.lkp (.cell .str) (.i (.ofNat 0)) (.t (.p2 .d1 .d8)) (.t (.p2 .d1 .d10)) false), none⟩,
  ⟨some (.p2 .d1 .d12), (.gtr (.t (.p2 .d1 .d11)) (.k (.i (.ofNat 1)))), none⟩]) (.cond (.t (.p2 .d1 .d12)) (.dreg [
  ⟨0, ⟨some (.p2 .d1 .d13), (.mv (.t (.p2 .d0 .d0))), none⟩, .pur, 0⟩,
  ⟨1, ⟨some (.p2 .d1 .d14), (.nilc (.t (.p2 .d1 .d13))), none⟩, .pur, 0⟩,
  ⟨2, ⟨some (.p2 .d1 .d15), (.fa (.t (.p2 .d1 .d14)) 3), none⟩, .pur, 0⟩,
  ⟨3, ⟨some (.p2 .d2 .d0), (.fa (.t (.p2 .d0 .d7)) 2), none⟩, .pur, 0⟩,
  ⟨4, ⟨some (.p2 .d2 .d1), (.ld1 (.t (.p2 .d2 .d0))), none⟩, .rd, 0⟩,
  ⟨5, ⟨some (.p2 .d2 .d2), (.fa (.t (.p2 .d0 .d7)) 3), none⟩, .pur, 0⟩,
  ⟨6, ⟨some (.p2 .d2 .d3), (.ld1 (.t (.p2 .d2 .d2))), none⟩, .rd, 0⟩,
  ⟨7, ⟨some (.p2 .d2 .d4), (.call ⟨16, .d0, .d1, .d0⟩ [(.t (.p2 .d1 .d15)), (.t (.p2 .d2 .d1)), (.t (.p2 .d2 .d3)), (.k (.i (.ofNat 13)))]), none⟩, .ev, 0⟩]) .skip))))) (.reg [
  ⟨some (.p2 .d2 .d5), (.add (.t (.p2 .d0 .d15)) (.k (.i (.ofNat 1)))), none⟩,
  ⟨some (.p2 .d0 .d15), (.mv (.t (.p2 .d2 .d5))), none⟩])))))))))), []⟩
def cf68 : CF := ⟨68, true, (.seq (.reg [
  ⟨some (.p2 .d0 .d6), (.box 43 6 (.t (.p2 .d0 .d0))), none⟩]) (.seq (.seq (.reg [
  ⟨some (.p2 .d1 .d12), (.fa (.t (.p2 .d0 .d6)) 0), none⟩,
  ⟨some (.p2 .d1 .d13), (.ld1 (.t (.p2 .d1 .d12))), none⟩]) (.block 0 (.seq (.reg [
  ⟨some (.p2 .d1 .d15), (.eql (.cell (.int .i64)) (.t (.p2 .d1 .d13)) (.k (.i (.ofNat 5)))), none⟩,
  ⟨some (.p2 .d1 .d14), (.mv (.t (.p2 .d1 .d15))), none⟩]) (.cond (.t (.p2 .d1 .d14)) (.seq (.reg [
  ⟨some (.p2 .d2 .d0), .mkmap, none⟩,
  ⟨some (.p2 .d2 .d1), (.build [.nilp, .nilm, .nilm] [(2, 1, (.t (.p2 .d2 .d0)))]), none⟩,
  ⟨some (.p2 .d2 .d2), (.box 116 3 (.t (.p2 .d2 .d1))), none⟩,
  ⟨some (.p2 .d2 .d3), (.call ⟨69, .d0, .d4, .d5⟩ [(.t (.p2 .d2 .d2))]), none⟩,
  ⟨some (.p2 .d0 .d1), (.mv (.t (.p2 .d2 .d3))), none⟩]) (.seq (.reg [
  ⟨some (.p2 .d2 .d4), .mkmap, none⟩,
  ⟨some (.p2 .d0 .d2), (.mv (.t (.p2 .d2 .d4))), none⟩]) (.seq (.seq (.dreg [
  ⟨0, ⟨some (.p2 .d2 .d5), (.fa (.t (.p2 .d0 .d6)) 5), none⟩, .pur, 0⟩,
  ⟨1, ⟨some (.p2 .d2 .d6), (.ld1 (.t (.p2 .d2 .d5))), none⟩, .rd, 0⟩,
  ⟨2, ⟨some (.p2 .d2 .d7), (.ia 6 (.t (.p2 .d2 .d6)) (.k (.i (.ofNat 0)))), none⟩, .pur, 0⟩,
  ⟨3, ⟨some (.p2 .d2 .d8), (.ldn 6 (.t (.p2 .d2 .d7))), none⟩, .rd, 0⟩,
  ⟨5, ⟨some (.p2 .d2 .d10), (.fa (.t (.p2 .d0 .d6)) 5), none⟩, .pur, 0⟩,
  ⟨6, ⟨some (.p2 .d2 .d11), (.ld1 (.t (.p2 .d2 .d10))), none⟩, .rd, 1⟩,
  ⟨7, ⟨some (.p2 .d2 .d12), (.ia 6 (.t (.p2 .d2 .d11)) (.k (.i (.ofNat 1)))), none⟩, .pur, 0⟩,
  ⟨8, ⟨some (.p2 .d2 .d13), (.fa (.t (.p2 .d2 .d12)) 5), none⟩, .pur, 0⟩,
  ⟨9, ⟨some (.p2 .d2 .d14), (.ld1 (.t (.p2 .d2 .d13))), none⟩, .rd, 1⟩,
  ⟨12, ⟨some (.p2 .d3 .d1), (.mv (.k (.i (.ofNat 0)))), none⟩, .pur, 0⟩,
  ⟨4, ⟨some (.p2 .d2 .d9), (.bslice 43 6 1 [(.i (.ofNat 0)), (.i (.ofNat 0)), (.i (.ofNat 0)), (.i (.ofNat 0)), (.str 0 0), .nils] [(0, (.t (.p2 .d2 .d8)))]), none⟩, .ev, 0⟩,
  ⟨10, ⟨some (.p2 .d2 .d15), (.append 43 6 72 (.t (.p2 .d2 .d9)) (.t (.p2 .d2 .d14))), none⟩, .ev, 1⟩,
  ⟨11, ⟨some (.p2 .d3 .d0), (.len 1 (.t (.p2 .d2 .d15))), none⟩, .rd, 14⟩]) (.block 1 (.loop (.seq (.reg [
  ⟨some (.p2 .d3 .d2), (.lss (.t (.p2 .d3 .d1)) (.t (.p2 .d3 .d0))), none⟩]) (.seq (.cond (.t (.p2 .d3 .d2)) .skip (.exit 1)) (.seq (.block 2 (.seq (.reg [
  ⟨some (.p2 .d3 .d3), (.ia 6 (.t (.p2 .d2 .d15)) (.t (.p2 .d3 .d1))), none⟩,
  ⟨some (.p2 .d3 .d4), (.ldn 6 (.t (.p2 .d3 .d3))), none⟩,
  ⟨some (.p2 .d0 .d10), (.alloc 43 [(.i (.ofNat 0)), (.i (.ofNat 0)), (.i (.ofNat 0)), (.i (.ofNat 0)), (.str 0 0), .nils]), none⟩,
  ⟨none, (.st 6 (.t (.p2 .d0 .d10)) (.t (.p2 .d3 .d4))), none⟩]) (.seq (.reg [
  ⟨some (.p2 .d3 .d5), (.ld1 (.t (.p2 .d0 .d3))), none⟩,
  ⟨some (.p2 .d3 .d6), (.ldn 6 (.t (.p2 .d0 .d10))), none⟩,
  ⟨some (.p2 .d3 .d7), (.mv (.t (.p2 .d0 .d2))), none⟩,
  ⟨some (.p2 .d3 .d8), (.callv (.t (.p2 .d3 .d5)) [(.t (.p2 .d3 .d6)), (.k .nilp), (.t (.p2 .d3 .d7))]), none⟩]) (.seq (.reg [
  ⟨some (.p2 .d3 .d9), (.fa (.t (.p2 .d0 .d10)) 0), none⟩,
  ⟨some (.p2 .d3 .d10), (.ld1 (.t (.p2 .d3 .d9))), none⟩,
  ⟨some (.p2 .d3 .d11), (.neq (.cell (.int .i64)) (.t (.p2 .d3 .d10)) (.k (.i (.ofNat 0)))), none⟩]) (.cond (.t (.p2 .d3 .d11)) (.dreg [
  ⟨0, ⟨some (.p2 .d3 .d12), (.ld1 (.t (.p2 .d0 .d4))), none⟩, .rd, 1⟩,
  ⟨1, ⟨some (.p2 .d3 .d13), (.mv (.t (.p2 .d0 .d1))), none⟩, .pur, 0⟩,
  ⟨2, ⟨some (.p2 .d3 .d14), (.nilc (.t (.p2 .d3 .d13))), none⟩, .pur, 0⟩,
  ⟨3, ⟨some (.p2 .d3 .d15), (.fa (.t (.p2 .d3 .d14)) 1), none⟩, .pur, 0⟩,
  ⟨4, ⟨some (.p2 .d4 .d0), (.ld1 (.t (.p2 .d3 .d15))), none⟩, .rd, 1⟩,
  ⟨5, ⟨some (.p2 .d4 .d1), (.ld1 (.t (.p2 .d0 .d4))), none⟩, .rd, 0⟩,
  ⟨6, ⟨some (.p2 .d4 .d2), (.ld1 (.t (.p2 .d0 .d5))), none⟩, .rd, 0⟩,
  ⟨7, ⟨some (.p2 .d4 .d3), (.ldn 6 (.t (.p2 .d0 .d10))), none⟩, .rd, 0⟩,
  ⟨8, ⟨some (.p2 .d4 .d4), (.call ⟨65, .d0, .d4, .d1⟩ [(.t (.p2 .d4 .d1)), (.k (.i (.ofNat 6))), (.t (.p2 .d4 .d2)), (.t (.p2 .d4 .d3))]), none⟩, .ev, 0⟩,
  ⟨9, ⟨some (.p2 .d4 .d5), (.call ⟨70, .d0, .d4, .d6⟩ [(.t (.p2 .d3 .d12)), (.t (.p2 .d4 .d0)), (.t (.p2 .d4 .d4))]), none⟩, .ev, 1⟩]) .skip))))) (.reg [
  ⟨some (.p2 .d4 .d6), (.add (.t (.p2 .d3 .d1)) (.k (.i (.ofNat 1)))), none⟩,
  ⟨some (.p2 .d3 .d1), (.mv (.t (.p2 .d4 .d6))), none⟩]))))))) (.seq (.dreg [
  ⟨0, ⟨some (.p2 .d4 .d7), (.ld1 (.t (.p2 .d0 .d3))), none⟩, .rd, 0⟩,
  ⟨1, ⟨some (.p2 .d4 .d8), (.fa (.t (.p2 .d0 .d6)) 5), none⟩, .pur, 0⟩,
  ⟨2, ⟨some (.p2 .d4 .d9), (.ld1 (.t (.p2 .d4 .d8))), none⟩, .rd, 0⟩,
  ⟨3, ⟨some (.p2 .d4 .d10), (.ia 6 (.t (.p2 .d4 .d9)) (.k (.i (.ofNat 2)))), none⟩, .pur, 0⟩,
  ⟨4, ⟨some (.p2 .d4 .d11), (.ldn 6 (.t (.p2 .d4 .d10))), none⟩, .rd, 0⟩,
  ⟨5, ⟨some (.p2 .d4 .d12), (.mv (.t (.p2 .d0 .d2))), none⟩, .pur, 0⟩,
  ⟨6, ⟨some (.p2 .d4 .d13), (.callv (.t (.p2 .d4 .d7)) [(.t (.p2 .d4 .d11)), (.k .nilp), (.t (.p2 .d4 .d12))]), none⟩, .ev, 0⟩]) (.seq (.seq (.reg [
  ⟨some (.p2 .d4 .d14), (.fa (.t (.p2 .d0 .d6)) 5), none⟩,
  ⟨some (.p2 .d4 .d15), (.ld1 (.t (.p2 .d4 .d14))), none⟩,
  ⟨some (.p2 .d5 .d0), (.ia 6 (.t (.p2 .d4 .d15)) (.k (.i (.ofNat 3)))), none⟩,
  ⟨some (.p2 .d5 .d1), (.fa (.t (.p2 .d5 .d0)) 5), none⟩,
  ⟨some (.p2 .d5 .d2), (.ld1 (.t (.p2 .d5 .d1))), none⟩,
  ⟨some (.p2 .d5 .d3), (.len 1 (.t (.p2 .d5 .d2))), none⟩,
  ⟨some (.p2 .d5 .d4), (.mv (.k (.i (.ofNat 0)))), none⟩]) (.block 3 (.loop (.seq (.reg [
  ⟨some (.p2 .d5 .d5), (.lss (.t (.p2 .d5 .d4)) (.t (.p2 .d5 .d3))), none⟩]) (.seq (.cond (.t (.p2 .d5 .d5)) .skip (.exit 3)) (.seq (.block 4 (.seq (.reg [
  ⟨some (.p2 .d5 .d6), (.ia 6 (.t (.p2 .d5 .d2)) (.t (.p2 .d5 .d4))), none⟩,
  ⟨some (.p2 .d5 .d7), (.ldn 6 (.t (.p2 .d5 .d6))), none⟩,
  ⟨some (.p2 .d0 .d12), (.alloc 43 [(.i (.ofNat 0)), (.i (.ofNat 0)), (.i (.ofNat 0)), (.i (.ofNat 0)), (.str 0 0), .nils]), none⟩,
  ⟨none, (.st 6 (.t (.p2 .d0 .d12)) (.t (.p2 .d5 .d7))), none⟩]) (.reg [
  ⟨some (.p2 .d5 .d8), (.ld1 (.t (.p2 .d0 .d3))), none⟩,
  ⟨some (.p2 .d5 .d9), (.ldn 6 (.t (.p2 .d0 .d12))), none⟩,
  ⟨some (.p2 .d5 .d10), (.mv (.t (.p2 .d0 .d1))), none⟩,
  ⟨some (.p2 .d5 .d11), (.mv (.t (.p2 .d0 .d2))), none⟩,
  ⟨some (.p2 .d5 .d12), (.callv (.t (.p2 .d5 .d8)) [(.t (.p2 .d5 .d9)), (.t (.p2 .d5 .d10)), (.t (.p2 .d5 .d11))]), none⟩]))) (.reg [
  ⟨some (.p2 .d5 .d13), (.add (.t (.p2 .d5 .d4)) (.k (.i (.ofNat 1)))), none⟩,
  ⟨some (.p2 .d5 .d4), (.mv (.t (.p2 .d5 .d13))), none⟩]))))))) .ret))))) (.seq (.seq (.reg [
  ⟨some (.p2 .d5 .d15), (.eql (.cell (.int .i64)) (.t (.p2 .d1 .d13)) (.k (.i (.ofNat 10)))), none⟩,
  ⟨some (.p2 .d5 .d14), (.mv (.t (.p2 .d5 .d15))), none⟩]) (.cond (.t (.p2 .d5 .d14)) .skip (.reg [
  ⟨some (.p2 .d6 .d0), (.eql (.cell (.int .i64)) (.t (.p2 .d1 .d13)) (.k (.i (.ofNat 15)))), none⟩,
  ⟨some (.p2 .d5 .d14), (.mv (.t (.p2 .d6 .d0))), none⟩]))) (.cond (.t (.p2 .d5 .d14)) (.reg [
  ⟨some (.p2 .d6 .d1), (.mv (.t (.p2 .d0 .d1))), none⟩,
  ⟨some (.p2 .d6 .d2), (.call ⟨69, .d0, .d4, .d5⟩ [(.t (.p2 .d6 .d1))]), none⟩,
  ⟨some (.p2 .d0 .d1), (.mv (.t (.p2 .d6 .d2))), none⟩]) (.seq (.reg [
  ⟨some (.p2 .d6 .d4), (.eql (.cell (.int .i64)) (.t (.p2 .d1 .d13)) (.k (.i (.ofNat 16)))), none⟩,
  ⟨some (.p2 .d6 .d3), (.mv (.t (.p2 .d6 .d4))), none⟩]) (.cond (.t (.p2 .d6 .d3)) (.seq (.reg [
  ⟨some (.p2 .d6 .d5), (.ld1 (.t (.p2 .d0 .d4))), none⟩,
  ⟨some (.p2 .d6 .d6), (.ld1 (.t (.p2 .d0 .d5))), none⟩,
  ⟨some (.p2 .d6 .d7), (.ldn 6 (.t (.p2 .d0 .d6))), none⟩,
  ⟨some (.p2 .d6 .d8), (.call ⟨65, .d0, .d4, .d1⟩ [(.t (.p2 .d6 .d5)), (.k (.i (.ofNat 8))), (.t (.p2 .d6 .d6)), (.t (.p2 .d6 .d7))]), none⟩,
  ⟨some (.p2 .d0 .d13), (.alloc 35 [(.i (.ofNat 0)), (.str 0 0), (.i (.ofNat 0)), (.i (.ofNat 0)), (.str 0 0)]), none⟩,
  ⟨none, (.st 5 (.t (.p2 .d0 .d13)) (.t (.p2 .d6 .d8))), none⟩]) (.seq (.dreg [
  ⟨0, ⟨some (.p2 .d6 .d9), (.ld1 (.t (.p2 .d0 .d4))), none⟩, .rd, 0⟩,
  ⟨1, ⟨some (.p2 .d6 .d10), (.mv (.t (.p2 .d0 .d1))), none⟩, .pur, 0⟩,
  ⟨2, ⟨some (.p2 .d6 .d11), (.nilc (.t (.p2 .d6 .d10))), none⟩, .pur, 0⟩,
  ⟨3, ⟨some (.p2 .d6 .d12), (.fa (.t (.p2 .d6 .d11)) 2), none⟩, .pur, 0⟩,
  ⟨4, ⟨some (.p2 .d6 .d13), (.ld1 (.t (.p2 .d6 .d12))), none⟩, .rd, 0⟩,
  ⟨5, ⟨some (.p2 .d6 .d14), (.ldn 5 (.t (.p2 .d0 .d13))), none⟩, .rd, 0⟩,
  ⟨6, ⟨some (.p2 .d6 .d15), (.call ⟨70, .d0, .d4, .d6⟩ [(.t (.p2 .d6 .d9)), (.t (.p2 .d6 .d13)), (.t (.p2 .d6 .d14))]), none⟩, .ev, 0⟩]) (.seq (.reg [
  ⟨some (.p2 .d7 .d0), .mkmap, none⟩,
  ⟨some (.p2 .d0 .d14), (.mv (.t (.p2 .d7 .d0))), none⟩]) (.seq (.seq (.reg [
  ⟨some (.p2 .d7 .d1), (.mv (.t (.p2 .d0 .d2))), none⟩,
  ⟨some (.p2 .d7 .d2), (.rng (.cell .str) (.t (.p2 .d7 .d1))), none⟩]) (.block 5 (.loop (.seq (.reg [
  ⟨some (.p2 .d7 .d3), (.nxt (.t (.p2 .d7 .d2)) false), none⟩,
  ⟨some (.p2 .d7 .d4), (.ext (.t (.p2 .d7 .d3)) 0), none⟩]) (.seq (.cond (.t (.p2 .d7 .d4)) .skip (.exit 5)) (.block 6 (.seq (.reg [
  ⟨some (.p2 .d7 .d5), (.entry (.t (.p2 .d7 .d2))), none⟩,
  ⟨some (.p2 .d7 .d6), (.ext (.t (.p2 .d7 .d5)) 0), none⟩,
  ⟨some (.p2 .d7 .d7), (.ext (.t (.p2 .d7 .d5)) 1), none⟩,
  ⟨some (.p2 .d1 .d0), (.alloc 35 [(.i (.ofNat 0)), (.str 0 0), (.i (.ofNat 0)), (.i (.ofNat 0)), (.str 0 0)]), none⟩,
  ⟨some (.p2 .d0 .d15), (.mv (.t (.p2 .d7 .d6))), none⟩,
  ⟨none, (.st 5 (.t (.p2 .d1 .d0)) (.t (.p2 .d7 .d7))), none⟩]) (.reg [
  ⟨some (.p2 .d7 .d8), (.mv (.t (.p2 .d0 .d14))), none⟩,
  ⟨some (.p2 .d7 .d9), (.mv (.t (.p2 .d0 .d15))), none⟩,
  ⟨some (.p2 .d7 .d10), (.ldn 5 (.t (.p2 .d1 .d0))), none⟩,
  ⟨none, (.mupd (.cell .str) (.t (.p2 .d7 .d8)) (.t (.p2 .d7 .d9)) (.t (.p2 .d7 .d10))), none⟩])))))))) (.seq (.reg [
  ⟨some (.p2 .d7 .d11), (.mv (.t (.p2 .d0 .d14))), none⟩,
  ⟨some (.p2 .d7 .d12), (.fa (.t (.p2 .d0 .d6)) 4), none⟩,
  ⟨some (.p2 .d7 .d13), (.ld1 (.t (.p2 .d7 .d12))), none⟩,
  ⟨some (.p2 .d7 .d14), (.ldn 5 (.t (.p2 .d0 .d13))), none⟩,
  ⟨none, (.mupd (.cell .str) (.t (.p2 .d7 .d11)) (.t (.p2 .d7 .d13)) (.t (.p2 .d7 .d14))), none⟩]) (.reg [
  ⟨some (.p2 .d7 .d15), (.mv (.t (.p2 .d0 .d14))), none⟩,
  ⟨some (.p2 .d0 .d2), (.mv (.t (.p2 .d7 .d15))), none⟩])))))) (.seq (.seq (.reg [
  ⟨some (.p2 .d8 .d1), (.eql (.cell (.int .i64)) (.t (.p2 .d1 .d13)) (.k (.i (.ofNat 17)))), none⟩,
  ⟨some (.p2 .d8 .d0), (.mv (.t (.p2 .d8 .d1))), none⟩]) (.cond (.t (.p2 .d8 .d0)) .skip (.reg [
  ⟨some (.p2 .d8 .d2), (.eql (.cell (.int .i64)) (.t (.p2 .d1 .d13)) (.k (.i (.ofNat 18)))), none⟩,
  ⟨some (.p2 .d8 .d0), (.mv (.t (.p2 .d8 .d2))), none⟩]))) (.cond (.t (.p2 .d8 .d0)) (.seq (.reg [
  ⟨some (.p2 .d8 .d3), (.fa (.t (.p2 .d0 .d6)) 4), none⟩,
  ⟨some (.p2 .d8 .d4), (.ld1 (.t (.p2 .d8 .d3))), none⟩,
  ⟨some (.p2 .d8 .d5), (.neq (.cell .str) (.t (.p2 .d8 .d4)) (.k (.str 0 0))), none⟩]) (.cond (.t (.p2 .d8 .d5)) (.seq (.reg [
  ⟨some (.p2 .d8 .d7), (.mv (.t (.p2 .d0 .d2))), none⟩,
  ⟨some (.p2 .d8 .d8), (.fa (.t (.p2 .d0 .d6)) 4), none⟩,
  ⟨some (.p2 .d8 .d9), (.ld1 (.t (.p2 .d8 .d8))), none⟩,
  ⟨some (.p2 .d8 .d10), (.lkp (.cell .str) (.agg [(.i (.ofNat 0)), (.str 0 0), (.i (.ofNat 0)), (.i (.ofNat 0)), (.str 0 0)]) (.t (.p2 .d8 .d7)) (.t (.p2 .d8 .d9)) true), none⟩,
  ⟨some (.p2 .d8 .d6), (.mv (.t (.p2 .d8 .d10))), none⟩,
  ⟨some (.p2 .d8 .d11), (.ext (.t (.p2 .d8 .d6)) 0), none⟩,
  ⟨some (.p2 .d8 .d12), (.ext (.t (.p2 .d8 .d6)) 1), none⟩,
  ⟨some (.p2 .d1 .d1), (.alloc 35 [(.i (.ofNat 0)), (.str 0 0), (.i (.ofNat 0)), (.i (.ofNat 0)), (.str 0 0)]), none⟩,
  ⟨none, (.st 5 (.t (.p2 .d1 .d1)) (.t (.p2 .d8 .d11))), none⟩,
  ⟨some (.p2 .d1 .d2), (.mv (.t (.p2 .d8 .d12))), none⟩]) (.reg [
  ⟨some (.p2 .d8 .d13), (.ld1 (.t (.p2 .d0 .d4))), none⟩,
  ⟨some (.p2 .d8 .d14), (.ld1 (.t (.p2 .d0 .d5))), none⟩,
  ⟨some (.p2 .d8 .d15), (.ldn 6 (.t (.p2 .d0 .d6))), none⟩,
  ⟨some (.p2 .d9 .d0), (.ldn 5 (.t (.p2 .d1 .d1))), none⟩,
  ⟨some (.p2 .d9 .d1), (.mv (.t (.p2 .d1 .d2))), none⟩,
  ⟨some (.p2 .d9 .d2), (.call ⟨71, .d0, .d4, .d7⟩ [(.t (.p2 .d8 .d13)), (.t (.p2 .d8 .d14)), (.t (.p2 .d8 .d15)), (.t (.p2 .d9 .d0)), (.t (.p2 .d9 .d1))]), none⟩])) .skip)) (.seq (.seq (.reg [
  ⟨some (.p2 .d9 .d4), (.eql (.cell (.int .i64)) (.t (.p2 .d1 .d13)) (.k (.i (.ofNat 25)))), none⟩,
  ⟨some (.p2 .d9 .d3), (.mv (.t (.p2 .d9 .d4))), none⟩]) (.cond (.t (.p2 .d9 .d3)) .skip (.reg [
  ⟨some (.p2 .d9 .d5), (.eql (.cell (.int .i64)) (.t (.p2 .d1 .d13)) (.k (.i (.ofNat 8)))), none⟩,
  ⟨some (.p2 .d9 .d3), (.mv (.t (.p2 .d9 .d5))), none⟩]))) (.cond (.t (.p2 .d9 .d3)) (.seq (.reg [
  ⟨some (.p2 .d9 .d6), (.bslice 9 1 4 [(.str 0 0)] [(0, (.k (.str 3 7630441))), (1, (.k (.str 4 1819242338))), (2, (.k (.str 6 113723913172083))), (3, (.k (.str 7 14696572267752550)))]), none⟩,
  ⟨some (.p2 .d9 .d7), (.fa (.t (.p2 .d0 .d6)) 4), none⟩,
  ⟨some (.p2 .d9 .d8), (.ld1 (.t (.p2 .d9 .d7))), none⟩,
  ⟨some (.p2 .d9 .d9), (.call ⟨35, .d0, .d2, .d3⟩ [(.t (.p2 .d9 .d6)), (.t (.p2 .d9 .d8))]), none⟩,
  ⟨some (.p2 .d9 .d10), (.not (.t (.p2 .d9 .d9))), none⟩]) (.cond (.t (.p2 .d9 .d10)) (.seq (.reg [
  ⟨some (.p2 .d9 .d12), (.ld1 (.t (.p2 .d0 .d4))), none⟩,
  ⟨some (.p2 .d9 .d13), (.ld1 (.t (.p2 .d0 .d5))), none⟩,
  ⟨some (.p2 .d9 .d14), (.fa (.t (.p2 .d0 .d6)) 4), none⟩,
  ⟨some (.p2 .d9 .d15), (.ld1 (.t (.p2 .d9 .d14))), none⟩,
  ⟨some (.p2 .d10 .d0), (.mv (.t (.p2 .d0 .d1))), none⟩,
  ⟨some (.p2 .d10 .d1), (.call ⟨72, .d0, .d4, .d8⟩ [(.t (.p2 .d9 .d12)), (.t (.p2 .d9 .d13)), (.t (.p2 .d9 .d15)), (.t (.p2 .d10 .d0))]), none⟩,
  ⟨some (.p2 .d9 .d11), (.mv (.t (.p2 .d10 .d1))), none⟩,
  ⟨some (.p2 .d10 .d2), (.ext (.t (.p2 .d9 .d11)) 0), none⟩,
  ⟨some (.p2 .d10 .d3), (.ext (.t (.p2 .d9 .d11)) 1), none⟩,
  ⟨some (.p2 .d1 .d3), (.alloc 35 [(.i (.ofNat 0)), (.str 0 0), (.i (.ofNat 0)), (.i (.ofNat 0)), (.str 0 0)]), none⟩,
  ⟨none, (.st 5 (.t (.p2 .d1 .d3)) (.t (.p2 .d10 .d2))), none⟩,
  ⟨some (.p2 .d1 .d4), (.mv (.t (.p2 .d10 .d3))), none⟩]) (.reg [
  ⟨some (.p2 .d10 .d4), (.ld1 (.t (.p2 .d0 .d4))), none⟩,
  ⟨some (.p2 .d10 .d5), (.ld1 (.t (.p2 .d0 .d5))), none⟩,
  ⟨some (.p2 .d10 .d6), (.ldn 6 (.t (.p2 .d0 .d6))), none⟩,
  ⟨some (.p2 .d10 .d7), (.ldn 5 (.t (.p2 .d1 .d3))), none⟩,
  ⟨some (.p2 .d10 .d8), (.mv (.t (.p2 .d1 .d4))), none⟩,
  ⟨some (.p2 .d10 .d9), (.call ⟨71, .d0, .d4, .d7⟩ [(.t (.p2 .d10 .d4)), (.t (.p2 .d10 .d5)), (.t (.p2 .d10 .d6)), (.t (.p2 .d10 .d7)), (.t (.p2 .d10 .d8))]), none⟩])) .skip)) .skip)))))))))))) (.seq (.seq (.reg [
  ⟨some (.p2 .d10 .d10), (.fa (.t (.p2 .d0 .d6)) 5), none⟩,
  ⟨some (.p2 .d10 .d11), (.ld1 (.t (.p2 .d10 .d10))), none⟩,
  ⟨some (.p2 .d10 .d12), (.len 1 (.t (.p2 .d10 .d11))), none⟩,
  ⟨some (.p2 .d10 .d13), (.mv (.k (.i (.ofNat 0)))), none⟩]) (.block 7 (.loop (.seq (.reg [
  ⟨some (.p2 .d10 .d14), (.lss (.t (.p2 .d10 .d13)) (.t (.p2 .d10 .d12))), none⟩]) (.seq (.cond (.t (.p2 .d10 .d14)) .skip (.exit 7)) (.seq (.block 8 (.seq (.reg [
  ⟨some (.p2 .d10 .d15), (.ia 6 (.t (.p2 .d10 .d11)) (.t (.p2 .d10 .d13))), none⟩,
  ⟨some (.p2 .d11 .d0), (.ldn 6 (.t (.p2 .d10 .d15))), none⟩,
  ⟨some (.p2 .d1 .d6), (.alloc 43 [(.i (.ofNat 0)), (.i (.ofNat 0)), (.i (.ofNat 0)), (.i (.ofNat 0)), (.str 0 0), .nils]), none⟩,
  ⟨none, (.st 6 (.t (.p2 .d1 .d6)) (.t (.p2 .d11 .d0))), none⟩]) (.reg [
  ⟨some (.p2 .d11 .d1), (.ld1 (.t (.p2 .d0 .d3))), none⟩,
  ⟨some (.p2 .d11 .d2), (.ldn 6 (.t (.p2 .d1 .d6))), none⟩,
  ⟨some (.p2 .d11 .d3), (.mv (.t (.p2 .d0 .d1))), none⟩,
  ⟨some (.p2 .d11 .d4), (.mv (.t (.p2 .d0 .d2))), none⟩,
  ⟨some (.p2 .d11 .d5), (.callv (.t (.p2 .d11 .d1)) [(.t (.p2 .d11 .d2)), (.t (.p2 .d11 .d3)), (.t (.p2 .d11 .d4))]), none⟩]))) (.reg [
  ⟨some (.p2 .d11 .d6), (.add (.t (.p2 .d10 .d13)) (.k (.i (.ofNat 1)))), none⟩,
  ⟨some (.p2 .d10 .d13), (.mv (.t (.p2 .d11 .d6))), none⟩]))))))) (.seq (.reg [
  ⟨some (.p2 .d11 .d7), (.fa (.t (.p2 .d0 .d6)) 0), none⟩,
  ⟨some (.p2 .d11 .d8), (.ld1 (.t (.p2 .d11 .d7))), none⟩]) (.block 9 (.seq (.seq (.reg [
  ⟨some (.p2 .d11 .d10), (.eql (.cell (.int .i64)) (.t (.p2 .d11 .d8)) (.k (.i (.ofNat 11)))), none⟩,
  ⟨some (.p2 .d11 .d9), (.mv (.t (.p2 .d11 .d10))), none⟩]) (.cond (.t (.p2 .d11 .d9)) .skip (.reg [
  ⟨some (.p2 .d11 .d11), (.eql (.cell (.int .i64)) (.t (.p2 .d11 .d8)) (.k (.i (.ofNat 12)))), none⟩,
  ⟨some (.p2 .d11 .d9), (.mv (.t (.p2 .d11 .d11))), none⟩]))) (.cond (.t (.p2 .d11 .d9)) (.dreg [
  ⟨0, ⟨some (.p2 .d11 .d12), (.ld1 (.t (.p2 .d0 .d4))), none⟩, .rd, 1⟩,
  ⟨1, ⟨some (.p2 .d11 .d13), (.mv (.t (.p2 .d0 .d1))), none⟩, .pur, 0⟩,
  ⟨2, ⟨some (.p2 .d11 .d14), (.nilc (.t (.p2 .d11 .d13))), none⟩, .pur, 0⟩,
  ⟨3, ⟨some (.p2 .d11 .d15), (.fa (.t (.p2 .d11 .d14)) 1), none⟩, .pur, 0⟩,
  ⟨4, ⟨some (.p2 .d12 .d0), (.ld1 (.t (.p2 .d11 .d15))), none⟩, .rd, 1⟩,
  ⟨5, ⟨some (.p2 .d12 .d1), (.ld1 (.t (.p2 .d0 .d4))), none⟩, .rd, 0⟩,
  ⟨6, ⟨some (.p2 .d12 .d2), (.ld1 (.t (.p2 .d0 .d5))), none⟩, .rd, 0⟩,
  ⟨7, ⟨some (.p2 .d12 .d3), (.ldn 6 (.t (.p2 .d0 .d6))), none⟩, .rd, 0⟩,
  ⟨8, ⟨some (.p2 .d12 .d4), (.call ⟨65, .d0, .d4, .d1⟩ [(.t (.p2 .d12 .d1)), (.k (.i (.ofNat 7))), (.t (.p2 .d12 .d2)), (.t (.p2 .d12 .d3))]), none⟩, .ev, 0⟩,
  ⟨9, ⟨some (.p2 .d12 .d5), (.call ⟨70, .d0, .d4, .d6⟩ [(.t (.p2 .d11 .d12)), (.t (.p2 .d12 .d0)), (.t (.p2 .d12 .d4))]), none⟩, .ev, 1⟩]) (.seq (.seq (.reg [
  ⟨some (.p2 .d12 .d7), (.eql (.cell (.int .i64)) (.t (.p2 .d11 .d8)) (.k (.i (.ofNat 26)))), none⟩,
  ⟨some (.p2 .d12 .d6), (.mv (.t (.p2 .d12 .d7))), none⟩]) (.cond (.t (.p2 .d12 .d6)) .skip (.reg [
  ⟨some (.p2 .d12 .d8), (.eql (.cell (.int .i64)) (.t (.p2 .d11 .d8)) (.k (.i (.ofNat 9)))), none⟩,
  ⟨some (.p2 .d12 .d6), (.mv (.t (.p2 .d12 .d8))), none⟩]))) (.cond (.t (.p2 .d12 .d6)) (.seq (.reg [
  ⟨some (.p2 .d12 .d9), (.fa (.t (.p2 .d0 .d6)) 5), none⟩,
  ⟨some (.p2 .d12 .d10), (.ld1 (.t (.p2 .d12 .d9))), none⟩,
  ⟨some (.p2 .d12 .d11), (.ia 6 (.t (.p2 .d12 .d10)) (.k (.i (.ofNat 0)))), none⟩,
  ⟨some (.p2 .d12 .d12), (.ldn 6 (.t (.p2 .d12 .d11))), none⟩,
  ⟨some (.p2 .d1 .d7), (.alloc 43 [(.i (.ofNat 0)), (.i (.ofNat 0)), (.i (.ofNat 0)), (.i (.ofNat 0)), (.str 0 0), .nils]), none⟩,
  ⟨none, (.st 6 (.t (.p2 .d1 .d7)) (.t (.p2 .d12 .d12))), none⟩]) (.seq (.reg [
  ⟨some (.p2 .d12 .d13), (.fa (.t (.p2 .d1 .d7)) 0), none⟩,
  ⟨some (.p2 .d12 .d14), (.ld1 (.t (.p2 .d12 .d13))), none⟩,
  ⟨some (.p2 .d12 .d15), (.eql (.cell (.int .i64)) (.t (.p2 .d12 .d14)) (.k (.i (.ofNat 25)))), none⟩]) (.cond (.t (.p2 .d12 .d15)) (.seq (.reg [
  ⟨some (.p2 .d13 .d1), (.ld1 (.t (.p2 .d0 .d4))), none⟩,
  ⟨some (.p2 .d13 .d2), (.ld1 (.t (.p2 .d0 .d5))), none⟩,
  ⟨some (.p2 .d13 .d3), (.fa (.t (.p2 .d1 .d7)) 4), none⟩,
  ⟨some (.p2 .d13 .d4), (.ld1 (.t (.p2 .d13 .d3))), none⟩,
  ⟨some (.p2 .d13 .d5), (.mv (.t (.p2 .d0 .d1))), none⟩,
  ⟨some (.p2 .d13 .d6), (.call ⟨72, .d0, .d4, .d8⟩ [(.t (.p2 .d13 .d1)), (.t (.p2 .d13 .d2)), (.t (.p2 .d13 .d4)), (.t (.p2 .d13 .d5))]), none⟩,
  ⟨some (.p2 .d13 .d0), (.mv (.t (.p2 .d13 .d6))), none⟩,
  ⟨some (.p2 .d13 .d7), (.ext (.t (.p2 .d13 .d0)) 0), none⟩,
  ⟨some (.p2 .d13 .d8), (.ext (.t (.p2 .d13 .d0)) 1), none⟩,
  ⟨some (.p2 .d1 .d8), (.alloc 35 [(.i (.ofNat 0)), (.str 0 0), (.i (.ofNat 0)), (.i (.ofNat 0)), (.str 0 0)]), none⟩,
  ⟨none, (.st 5 (.t (.p2 .d1 .d8)) (.t (.p2 .d13 .d7))), none⟩,
  ⟨some (.p2 .d1 .d9), (.mv (.t (.p2 .d13 .d8))), none⟩]) (.seq (.reg [
  ⟨some (.p2 .d13 .d9), (.mv (.t (.p2 .d1 .d9))), none⟩,
  ⟨some (.p2 .d13 .d10), (.mv (.t (.p2 .d13 .d9))), none⟩,
  ⟨some (.p2 .d13 .d11), (.fa (.t (.p2 .d1 .d8)) 0), some ((.p2 .d13 .d10), true)⟩,
  ⟨some (.p2 .d13 .d12), (.ld1 (.t (.p2 .d13 .d11))), some ((.p2 .d13 .d10), true)⟩,
  ⟨some (.p2 .d13 .d13), (.eql (.cell (.int .i64)) (.t (.p2 .d13 .d12)) (.k (.i (.ofNat 1)))), some ((.p2 .d13 .d10), true)⟩,
  ⟨some (.p2 .d13 .d14), (.pick (.t (.p2 .d13 .d10)) (.t (.p2 .d13 .d13)) (.k (.bool false))), none⟩]) (.cond (.t (.p2 .d13 .d14)) (.seq (.reg [
  ⟨some (.p2 .d14 .d0), (.ld1 (.t (.p2 .d0 .d4))), none⟩,
  ⟨some (.p2 .d14 .d1), (.fa (.t (.p2 .d1 .d8)) 4), none⟩,
  ⟨some (.p2 .d14 .d2), (.ld1 (.t (.p2 .d14 .d1))), none⟩,
  ⟨some (.p2 .d14 .d3), (.fa (.t (.p2 .d0 .d6)) 4), none⟩,
  ⟨some (.p2 .d14 .d4), (.ld1 (.t (.p2 .d14 .d3))), none⟩,
  ⟨some (.p2 .d14 .d5), (.call ⟨7, .d0, .d0, .d7⟩ [(.t (.p2 .d14 .d0)), (.t (.p2 .d14 .d2)), (.t (.p2 .d14 .d4))]), none⟩,
  ⟨some (.p2 .d13 .d15), (.mv (.t (.p2 .d14 .d5))), none⟩,
  ⟨some (.p2 .d14 .d6), (.ext (.t (.p2 .d13 .d15)) 0), none⟩,
  ⟨some (.p2 .d14 .d7), (.ext (.t (.p2 .d13 .d15)) 1), none⟩,
  ⟨some (.p2 .d1 .d10), (.alloc 35 [(.i (.ofNat 0)), (.str 0 0), (.i (.ofNat 0)), (.i (.ofNat 0)), (.str 0 0)]), none⟩,
  ⟨none, (.st 5 (.t (.p2 .d1 .d10)) (.t (.p2 .d14 .d6))), none⟩,
  ⟨some (.p2 .d1 .d11), (.mv (.t (.p2 .d14 .d7))), none⟩]) (.reg [
  ⟨some (.p2 .d14 .d8), (.ld1 (.t (.p2 .d0 .d4))), none⟩,
  ⟨some (.p2 .d14 .d9), (.ld1 (.t (.p2 .d0 .d5))), none⟩,
  ⟨some (.p2 .d14 .d10), (.ldn 6 (.t (.p2 .d0 .d6))), none⟩,
  ⟨some (.p2 .d14 .d11), (.ldn 5 (.t (.p2 .d1 .d10))), none⟩,
  ⟨some (.p2 .d14 .d12), (.mv (.t (.p2 .d1 .d11))), none⟩,
  ⟨some (.p2 .d14 .d13), (.call ⟨71, .d0, .d4, .d7⟩ [(.t (.p2 .d14 .d8)), (.t (.p2 .d14 .d9)), (.t (.p2 .d14 .d10)), (.t (.p2 .d14 .d11)), (.t (.p2 .d14 .d12))]), none⟩])) .skip))) .skip))) .skip))))))))), []⟩
def cf69 : CF := ⟨69, true, (.seq (.reg [
  ⟨some (.p2 .d0 .d2), (.mv (.k .nilp)), none⟩]) (.seq (.reg [
  ⟨some (.p2 .d0 .d3), (.mv (.t (.p2 .d0 .d0))), none⟩,
  ⟨some (.p2 .d0 .d4), .mkmap, none⟩,
  ⟨some (.p2 .d0 .d5), (.mv (.t (.p2 .d0 .d0))), none⟩,
  ⟨some (.p2 .d0 .d6), (.nilc (.t (.p2 .d0 .d5))), none⟩,
  ⟨some (.p2 .d0 .d7), (.fa (.t (.p2 .d0 .d6)) 2), none⟩,
  ⟨some (.p2 .d0 .d8), (.ld1 (.t (.p2 .d0 .d7))), none⟩,
  ⟨some (.p2 .d0 .d9), (.build [.nilp, .nilm, .nilm] [(0, 1, (.t (.p2 .d0 .d3))), (1, 1, (.t (.p2 .d0 .d4))), (2, 1, (.t (.p2 .d0 .d8)))]), none⟩,
  ⟨some (.p2 .d0 .d10), (.box 116 3 (.t (.p2 .d0 .d9))), none⟩,
  ⟨some (.p2 .d0 .d2), (.mv (.t (.p2 .d0 .d10))), none⟩]) .ret)), [.tmp (.p2 .d0 .d2)]⟩
def cf70 : CF := ⟨70, true, (.seq (.reg [
  ⟨some (.p2 .d0 .d5), (.box 35 5 (.t (.p2 .d0 .d2))), none⟩]) (.seq (.seq (.reg [
  ⟨some (.p2 .d0 .d9), (.mv (.t (.p2 .d0 .d1))), none⟩,
  ⟨some (.p2 .d0 .d10), (.fa (.t (.p2 .d0 .d5)) 1), none⟩,
  ⟨some (.p2 .d0 .d11), (.ld1 (.t (.p2 .d0 .d10))), none⟩,
  ⟨some (.p2 .d0 .d12), (.lkp (.cell .str) (.agg [(.i (.ofNat 0)), (.str 0 0), (.i (.ofNat 0)), (.i (.ofNat 0)), (.str 0 0)]) (.t (.p2 .d0 .d9)) (.t (.p2 .d0 .d11)) true), none⟩,
  ⟨some (.p2 .d0 .d8), (.mv (.t (.p2 .d0 .d12))), none⟩,
  ⟨some (.p2 .d0 .d13), (.ext (.t (.p2 .d0 .d8)) 0), none⟩,
  ⟨some (.p2 .d0 .d14), (.ext (.t (.p2 .d0 .d8)) 1), none⟩,
  ⟨some (.p2 .d0 .d6), (.alloc 35 [(.i (.ofNat 0)), (.str 0 0), (.i (.ofNat 0)), (.i (.ofNat 0)), (.str 0 0)]), none⟩,
  ⟨none, (.st 5 (.t (.p2 .d0 .d6)) (.t (.p2 .d0 .d13))), none⟩,
  ⟨some (.p2 .d0 .d7), (.mv (.t (.p2 .d0 .d14))), none⟩]) (.seq (.reg [
  ⟨some (.p2 .d0 .d15), (.mv (.t (.p2 .d0 .d7))), none⟩]) (.cond (.t (.p2 .d0 .d15)) (.dreg [
  ⟨0, ⟨some (.p2 .d1 .d0), (.mv (.t (.p2 .d0 .d0))), none⟩, .pur, 0⟩,
  ⟨1, ⟨some (.p2 .d1 .d1), (.nilc (.t (.p2 .d1 .d0))), none⟩, .pur, 0⟩,
  ⟨2, ⟨some (.p2 .d1 .d2), (.fa (.t (.p2 .d1 .d1)) 3), none⟩, .pur, 0⟩,
  ⟨3, ⟨some (.p2 .d1 .d3), (.fa (.t (.p2 .d0 .d5)) 2), none⟩, .pur, 0⟩,
  ⟨4, ⟨some (.p2 .d1 .d4), (.ld1 (.t (.p2 .d1 .d3))), none⟩, .rd, 0⟩,
  ⟨5, ⟨some (.p2 .d1 .d5), (.fa (.t (.p2 .d0 .d5)) 3), none⟩, .pur, 0⟩,
  ⟨6, ⟨some (.p2 .d1 .d6), (.ld1 (.t (.p2 .d1 .d5))), none⟩, .rd, 0⟩,
  ⟨7, ⟨some (.p2 .d1 .d7), (.call ⟨16, .d0, .d1, .d0⟩ [(.t (.p2 .d1 .d2)), (.t (.p2 .d1 .d4)), (.t (.p2 .d1 .d6)), (.k (.i (.ofNat 13)))]), none⟩, .ev, 0⟩]) .skip))) (.reg [
  ⟨some (.p2 .d1 .d8), (.mv (.t (.p2 .d0 .d1))), none⟩,
  ⟨some (.p2 .d1 .d9), (.fa (.t (.p2 .d0 .d5)) 1), none⟩,
  ⟨some (.p2 .d1 .d10), (.ld1 (.t (.p2 .d1 .d9))), none⟩,
  ⟨some (.p2 .d1 .d11), (.ldn 5 (.t (.p2 .d0 .d5))), none⟩,
  ⟨none, (.mupd (.cell .str) (.t (.p2 .d1 .d8)) (.t (.p2 .d1 .d10)) (.t (.p2 .d1 .d11))), none⟩]))), []⟩
def cf71 : CF := ⟨71, true, (.seq (.reg [
  ⟨some (.p2 .d0 .d7), (.box 43 6 (.t (.p2 .d0 .d2))), none⟩,
  ⟨some (.p2 .d0 .d8), (.box 35 5 (.t (.p2 .d0 .d3))), none⟩]) (.dreg [
  ⟨0, ⟨some (.p2 .d0 .d10), (.mv (.t (.p2 .d0 .d0))), none⟩, .pur, 0⟩,
  ⟨1, ⟨some (.p2 .d0 .d11), (.mv (.t (.p2 .d0 .d0))), none⟩, .pur, 0⟩,
  ⟨2, ⟨some (.p2 .d0 .d12), (.nilc (.t (.p2 .d0 .d11))), none⟩, .pur, 0⟩,
  ⟨3, ⟨some (.p2 .d0 .d13), (.fa (.t (.p2 .d0 .d12)) 9), none⟩, .pur, 0⟩,
  ⟨4, ⟨some (.p2 .d0 .d14), (.ld1 (.t (.p2 .d0 .d13))), none⟩, .rd, 1⟩,
  ⟨5, ⟨some (.p2 .d0 .d15), (.mv (.t (.p2 .d0 .d1))), none⟩, .pur, 0⟩,
  ⟨6, ⟨some (.p2 .d1 .d0), (.fa (.t (.p2 .d0 .d7)) 3), none⟩, .pur, 0⟩,
  ⟨7, ⟨some (.p2 .d1 .d1), (.ld1 (.t (.p2 .d1 .d0))), none⟩, .rd, 0⟩,
  ⟨8, ⟨some (.p2 .d1 .d2), (.fa (.t (.p2 .d0 .d7)) 4), none⟩, .pur, 0⟩,
  ⟨9, ⟨some (.p2 .d1 .d3), (.ld1 (.t (.p2 .d1 .d2))), none⟩, .rd, 0⟩,
  ⟨10, ⟨some (.p2 .d1 .d4), (.mv (.t (.p2 .d0 .d4))), none⟩, .pur, 0⟩,
  ⟨11, ⟨some (.p2 .d1 .d5), (.ldn 5 (.t (.p2 .d0 .d8))), none⟩, .rd, 0⟩,
  ⟨12, ⟨some (.p2 .d1 .d6), (.build [(.i (.ofNat 0)), (.i (.ofNat 0)), (.str 0 0), (.bool false), (.i (.ofNat 0)), (.str 0 0), (.i (.ofNat 0)), (.i (.ofNat 0)), (.str 0 0)] [(0, 1, (.t (.p2 .d0 .d15))), (1, 1, (.t (.p2 .d1 .d1))), (2, 1, (.t (.p2 .d1 .d3))), (3, 1, (.t (.p2 .d1 .d4))), (4, 5, (.t (.p2 .d1 .d5)))]), none⟩, .pur, 0⟩,
  ⟨13, ⟨some (.p2 .d1 .d7), (.bslice 37 9 1 [(.i (.ofNat 0)), (.i (.ofNat 0)), (.str 0 0), (.bool false), (.i (.ofNat 0)), (.str 0 0), (.i (.ofNat 0)), (.i (.ofNat 0)), (.str 0 0)] [(0, (.t (.p2 .d1 .d6)))]), none⟩, .ev, 0⟩,
  ⟨14, ⟨some (.p2 .d1 .d8), (.append 37 9 96 (.t (.p2 .d0 .d14)) (.t (.p2 .d1 .d7))), none⟩, .ev, 1⟩,
  ⟨15, ⟨some (.p2 .d1 .d9), (.nilc (.t (.p2 .d0 .d10))), none⟩, .pur, 0⟩,
  ⟨16, ⟨some (.p2 .d1 .d10), (.fa (.t (.p2 .d1 .d9)) 9), none⟩, .pur, 0⟩,
  ⟨17, ⟨none, (.st 1 (.t (.p2 .d1 .d10)) (.t (.p2 .d1 .d8))), none⟩, .ev, 2⟩])), []⟩
def cf72 : CF := ⟨72, true, (.seq (.reg [
  ⟨some (.p2 .d0 .d8), (.alloc 35 [(.i (.ofNat 0)), (.str 0 0), (.i (.ofNat 0)), (.i (.ofNat 0)), (.str 0 0)]), none⟩,
  ⟨some (.p2 .d0 .d9), (.mv (.k (.bool false))), none⟩]) (.seq (.seq (.reg [
  ⟨some (.p2 .d0 .d15), (.mv (.t (.p2 .d0 .d3))), none⟩,
  ⟨some (.p2 .d1 .d0), (.mv (.t (.p2 .d0 .d2))), none⟩,
  ⟨some (.p2 .d1 .d1), (.call ⟨103, .d0, .d6, .d7⟩ [(.t (.p2 .d0 .d15)), (.t (.p2 .d1 .d0))]), none⟩,
  ⟨some (.p2 .d0 .d14), (.mv (.t (.p2 .d1 .d1))), none⟩,
  ⟨some (.p2 .d1 .d2), (.ext (.t (.p2 .d0 .d14)) 0), none⟩,
  ⟨some (.p2 .d1 .d3), (.ext (.t (.p2 .d0 .d14)) 1), none⟩,
  ⟨some (.p2 .d0 .d10), (.alloc 35 [(.i (.ofNat 0)), (.str 0 0), (.i (.ofNat 0)), (.i (.ofNat 0)), (.str 0 0)]), none⟩,
  ⟨none, (.st 5 (.t (.p2 .d0 .d10)) (.t (.p2 .d1 .d2))), none⟩,
  ⟨some (.p2 .d0 .d11), (.mv (.t (.p2 .d1 .d3))), none⟩]) (.seq (.reg [
  ⟨some (.p2 .d1 .d4), (.mv (.t (.p2 .d0 .d11))), none⟩]) (.cond (.t (.p2 .d1 .d4)) (.seq (.reg [
  ⟨some (.p2 .d1 .d5), (.ldn 5 (.t (.p2 .d0 .d10))), none⟩,
  ⟨none, (.st 5 (.t (.p2 .d0 .d8)) (.t (.p2 .d1 .d5))), none⟩,
  ⟨some (.p2 .d0 .d9), (.mv (.k (.bool true))), none⟩]) .ret) .skip))) (.seq (.seq (.reg [
  ⟨some (.p2 .d1 .d6), (.mv (.t (.p2 .d0 .d0))), none⟩,
  ⟨some (.p2 .d1 .d7), (.nilc (.t (.p2 .d1 .d6))), none⟩,
  ⟨some (.p2 .d1 .d8), (.fa (.t (.p2 .d1 .d7)) 1), none⟩,
  ⟨some (.p2 .d1 .d9), (.ld1 (.t (.p2 .d1 .d8))), none⟩,
  ⟨some (.p2 .d1 .d10), (.mv (.t (.p2 .d0 .d1))), none⟩,
  ⟨some (.p2 .d1 .d11), (.ia 6 (.t (.p2 .d1 .d9)) (.t (.p2 .d1 .d10))), none⟩,
  ⟨some (.p2 .d1 .d12), (.fa (.t (.p2 .d1 .d11)) 5), none⟩,
  ⟨some (.p2 .d1 .d13), (.ld1 (.t (.p2 .d1 .d12))), none⟩,
  ⟨some (.p2 .d1 .d14), (.len 1 (.t (.p2 .d1 .d13))), none⟩,
  ⟨some (.p2 .d1 .d15), (.mv (.k (.i (.ofNat 0)))), none⟩]) (.block 0 (.loop (.seq (.reg [
  ⟨some (.p2 .d2 .d0), (.lss (.t (.p2 .d1 .d15)) (.t (.p2 .d1 .d14))), none⟩]) (.seq (.cond (.t (.p2 .d2 .d0)) .skip (.exit 0)) (.seq (.block 1 (.seq (.reg [
  ⟨some (.p2 .d2 .d1), (.ia 6 (.t (.p2 .d1 .d13)) (.t (.p2 .d1 .d15))), none⟩,
  ⟨some (.p2 .d2 .d2), (.ldn 6 (.t (.p2 .d2 .d1))), none⟩,
  ⟨some (.p2 .d0 .d13), (.alloc 43 [(.i (.ofNat 0)), (.i (.ofNat 0)), (.i (.ofNat 0)), (.i (.ofNat 0)), (.str 0 0), .nils]), none⟩,
  ⟨none, (.st 6 (.t (.p2 .d0 .d13)) (.t (.p2 .d2 .d2))), none⟩]) (.seq (.reg [
  ⟨some (.p2 .d2 .d3), (.fa (.t (.p2 .d0 .d13)) 0), none⟩,
  ⟨some (.p2 .d2 .d4), (.ld1 (.t (.p2 .d2 .d3))), none⟩,
  ⟨some (.p2 .d2 .d5), (.eql (.cell (.int .i64)) (.t (.p2 .d2 .d4)) (.k (.i (.ofNat 2)))), none⟩,
  ⟨some (.p2 .d2 .d6), (.mv (.t (.p2 .d2 .d5))), none⟩,
  ⟨some (.p2 .d2 .d7), (.fa (.t (.p2 .d0 .d13)) 4), some ((.p2 .d2 .d6), true)⟩,
  ⟨some (.p2 .d2 .d8), (.ld1 (.t (.p2 .d2 .d7))), some ((.p2 .d2 .d6), true)⟩,
  ⟨some (.p2 .d2 .d9), (.mv (.t (.p2 .d0 .d2))), some ((.p2 .d2 .d6), true)⟩,
  ⟨some (.p2 .d2 .d10), (.eql (.cell .str) (.t (.p2 .d2 .d8)) (.t (.p2 .d2 .d9))), some ((.p2 .d2 .d6), true)⟩,
  ⟨some (.p2 .d2 .d11), (.pick (.t (.p2 .d2 .d6)) (.t (.p2 .d2 .d10)) (.k (.bool false))), none⟩]) (.cond (.t (.p2 .d2 .d11)) (.seq (.reg [
  ⟨some (.p2 .d2 .d12), (.mv (.t (.p2 .d0 .d2))), none⟩,
  ⟨some (.p2 .d2 .d13), (.mv (.t (.p2 .d0 .d1))), none⟩,
  ⟨some (.p2 .d2 .d14), (.fa (.t (.p2 .d0 .d13)) 3), none⟩,
  ⟨some (.p2 .d2 .d15), (.ld1 (.t (.p2 .d2 .d14))), none⟩,
  ⟨some (.p2 .d3 .d0), (.mv (.t (.p2 .d0 .d2))), none⟩,
  ⟨some (.p2 .d3 .d1), (.build [(.i (.ofNat 0)), (.str 0 0), (.i (.ofNat 0)), (.i (.ofNat 0)), (.str 0 0)] [(0, 1, (.k (.i (.ofNat 1)))), (1, 1, (.t (.p2 .d2 .d12))), (2, 1, (.t (.p2 .d2 .d13))), (3, 1, (.t (.p2 .d2 .d15))), (4, 1, (.t (.p2 .d3 .d0)))]), none⟩,
  ⟨none, (.st 5 (.t (.p2 .d0 .d8)) (.t (.p2 .d3 .d1))), none⟩,
  ⟨some (.p2 .d0 .d9), (.mv (.k (.bool true))), none⟩]) .ret) .skip)))) (.reg [
  ⟨some (.p2 .d3 .d2), (.add (.t (.p2 .d1 .d15)) (.k (.i (.ofNat 1)))), none⟩,
  ⟨some (.p2 .d1 .d15), (.mv (.t (.p2 .d3 .d2))), none⟩]))))))) (.seq (.reg [
  ⟨some (.p2 .d3 .d3), (.mv (.t (.p2 .d0 .d0))), none⟩,
  ⟨some (.p2 .d3 .d4), (.mv (.t (.p2 .d0 .d0))), none⟩,
  ⟨some (.p2 .d3 .d5), (.nilc (.t (.p2 .d3 .d4))), none⟩,
  ⟨some (.p2 .d3 .d6), (.fa (.t (.p2 .d3 .d5)) 2), none⟩,
  ⟨some (.p2 .d3 .d7), (.ld1 (.t (.p2 .d3 .d6))), none⟩,
  ⟨some (.p2 .d3 .d8), (.mv (.t (.p2 .d0 .d1))), none⟩,
  ⟨some (.p2 .d3 .d9), (.ia 1 (.t (.p2 .d3 .d7)) (.t (.p2 .d3 .d8))), none⟩,
  ⟨some (.p2 .d3 .d10), (.ld1 (.t (.p2 .d3 .d9))), none⟩,
  ⟨some (.p2 .d3 .d11), (.mv (.t (.p2 .d0 .d2))), none⟩,
  ⟨some (.p2 .d3 .d12), (.call ⟨7, .d0, .d0, .d7⟩ [(.t (.p2 .d3 .d3)), (.t (.p2 .d3 .d10)), (.t (.p2 .d3 .d11))]), none⟩,
  ⟨some (.p2 .d3 .d13), (.ext (.t (.p2 .d3 .d12)) 0), none⟩,
  ⟨some (.p2 .d3 .d14), (.ext (.t (.p2 .d3 .d12)) 1), none⟩,
  ⟨none, (.st 5 (.t (.p2 .d0 .d8)) (.t (.p2 .d3 .d13))), none⟩,
  ⟨some (.p2 .d0 .d9), (.mv (.t (.p2 .d3 .d14))), none⟩]) .ret)))), [.cell 5 true (.p2 .d0 .d8), .tmp (.p2 .d0 .d9)]⟩
def cf73 : CF := ⟨73, true, (.seq (.reg [
  ⟨some (.p2 .d0 .d4), (.mv (.k (.bool false))), none⟩]) (.seq (.reg [
  ⟨some (.p2 .d0 .d5), (.mv (.t (.p2 .d0 .d0))), none⟩,
  ⟨some (.p2 .d0 .d6), (.len 0 (.t (.p2 .d0 .d5))), none⟩,
  ⟨some (.p2 .d0 .d7), (.mv (.t (.p2 .d0 .d1))), none⟩,
  ⟨some (.p2 .d0 .d8), (.len 0 (.t (.p2 .d0 .d7))), none⟩,
  ⟨some (.p2 .d0 .d9), (.geq (.t (.p2 .d0 .d6)) (.t (.p2 .d0 .d8))), none⟩,
  ⟨some (.p2 .d0 .d10), (.mv (.t (.p2 .d0 .d9))), none⟩,
  ⟨some (.p2 .d0 .d11), (.mv (.t (.p2 .d0 .d0))), some ((.p2 .d0 .d10), true)⟩,
  ⟨some (.p2 .d0 .d12), (.mv (.t (.p2 .d0 .d1))), some ((.p2 .d0 .d10), true)⟩,
  ⟨some (.p2 .d0 .d13), (.len 0 (.t (.p2 .d0 .d12))), some ((.p2 .d0 .d10), true)⟩,
  ⟨some (.p2 .d0 .d14), (.slStr (.t (.p2 .d0 .d11)) none (some (.t (.p2 .d0 .d13)))), some ((.p2 .d0 .d10), true)⟩,
  ⟨some (.p2 .d0 .d15), (.mv (.t (.p2 .d0 .d1))), some ((.p2 .d0 .d10), true)⟩,
  ⟨some (.p2 .d1 .d0), (.eql (.cell .str) (.t (.p2 .d0 .d14)) (.t (.p2 .d0 .d15))), some ((.p2 .d0 .d10), true)⟩,
  ⟨some (.p2 .d1 .d1), (.pick (.t (.p2 .d0 .d10)) (.t (.p2 .d1 .d0)) (.k (.bool false))), none⟩,
  ⟨some (.p2 .d0 .d4), (.mv (.t (.p2 .d1 .d1))), none⟩]) .ret)), [.tmp (.p2 .d0 .d4)]⟩
end Xv.Sk
