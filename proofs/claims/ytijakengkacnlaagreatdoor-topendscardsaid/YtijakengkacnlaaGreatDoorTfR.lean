/- The contracts of the second level: roots, the words that a text may not bear. No condition. -/
import Derived.Test.YtijakengkacnlaaGreatDoorTfA
set_option linter.all false
set_option maxRecDepth 1000000
noncomputable section
namespace Go.Ev
open Go.Eng Go.Proofs Go.Proofs.YtijakengkacnlaaGreatDoor
def o64 : AO := .opn (y4 [1116352408,1899447441,3049323471,3921009573,961987163,1508970993,2453635748,2870763221,3624381080,310598401,607225278,1426881987,1925078388,2162078206,2614888103,3248222580,3835390401,4022224774,264347078,604807628,770255983,1249150122,1555081692,1996064986,2554220882,2821834349,2952996808,3210313671,3336571891,3584528711,113926993,338241895,666307205,773529912,1294757372,1396182291,1695183700,1986661051,2177026350,2456956037,2730485921,2820302411,3259730800,3345764771,3516065817,3600352804,4094571909,275423344,430227734,506948616,659060556,883997877,958139571,1322822218,1537002063,1747873779,1955562222,2024104815,2227730452,2361852424,2428436474,2756734187,3204031479,3329325298]) 405
theorem L4 : H4 [] (fun t => qA tP xA tD 5000 507 [.int .i64 64, .bool true] ⟨t, 6⟩ (Qc (.slice (some ⟨261, 0, none⟩) 64 0) [] [(261, some o64)])) = done := by kernel_rfl
theorem KB : yZ tP 507 (Hr [.int .i64 64, .bool true] (fun i => .slice (some ⟨i, 0, none⟩) 64 0) o64 []) := WG (j := 261) Vx Yo Yn kp L4 rfl rfl (by decide +kernel) (by decide) MO
def o8 : AO := .opn (y4 [1779033703,3144134277,1013904242,2773480762,1359893119,2600822924,528734635,1541459225]) 405
theorem Pj : H4 [] (fun t => qA tP xA tD 5000 507 [.int .i64 8, .bool false] ⟨t, 6⟩ (Qc (.slice (some ⟨37, 0, none⟩) 8 0) [] [(37, some o8)])) = done := by kernel_rfl
theorem FJ : yZ tP 507 (Hr [.int .i64 8, .bool false] (fun i => .slice (some ⟨i, 0, none⟩) 8 0) o8 []) := WG (j := 37) Vx Yo Yn kp Pj rfl rfl (by decide +kernel) (by decide) MO
def Dc (vs : Lv) (s : St) (k : KS) : Rs := match vs with
 | [_, .bool true] => Hr [.int .i64 64, .bool true] (fun i => .slice (some ⟨i, 0, none⟩) 64 0) o64 [] vs s k
 | [_, .bool false] => Hr [.int .i64 8, .bool false] (fun i => .slice (some ⟨i, 0, none⟩) 8 0) o8 [] vs s k
 | _ => .no
theorem R9 : yZ tP 507 Dc := ⟨KB.1, fun {vs s k r} h hr => by
 unfold Dc at h
 split at h
 ·exact KB.2 h hr
 ·exact FJ.2 h hr
 ·exact absurd h.symm hr⟩
def Be : AO := .mp [⟨wT [99,97,114,100],.bool true,0⟩,⟨wT [117,110,105,116],.bool true,1⟩,⟨wT [99,104,97,114,109],.bool true,2⟩,⟨wT [102,111,114,109,97,116],.bool true,3⟩,⟨wT [112,108,97,121,101,100],.bool true,4⟩,⟨wT [100,101,97,100],.bool true,5⟩,⟨wT [100,97,119,110],.bool true,6⟩,⟨wT [97,117,114,97],.bool true,7⟩,⟨wT [115,104,105,101,108,100],.bool true,8⟩,⟨wT [104,97,114,109],.bool true,9⟩,⟨wT [109,101,110,100],.bool true,10⟩,⟨wT [100,114,97,119],.bool true,11⟩,⟨wT [103,97,105,110],.bool true,12⟩,⟨wT [100,114,111,112],.bool true,13⟩,⟨wT [108,111,111,107],.bool true,14⟩,⟨wT [115,104,111,119],.bool true,15⟩,⟨wT [115,117,109,109,111,110],.bool true,16⟩,⟨wT [105,102],.bool true,17⟩,⟨wT [101,108,115,101],.bool true,18⟩,⟨wT [109,101],.bool true,19⟩,⟨wT [102,111,101],.bool true,20⟩,⟨wT [116,97,114,103,101,116],.bool true,21⟩,⟨wT [108,105,102,101],.bool true,22⟩,⟨wT [104,97,110,100],.bool true,23⟩,⟨wT [100,101,99,107],.bool true,24⟩,⟨wT [117,110,105,116,115],.bool true,25⟩,⟨wT [109,97,110,97],.bool true,26⟩,⟨wT [99,111,115,116],.bool true,27⟩,⟨wT [116,111,112],.bool true,28⟩,⟨wT [112,111,119,101,114],.bool true,29⟩,⟨wT [109,105,110],.bool true,30⟩,⟨wT [109,97,120],.bool true,31⟩,⟨wT [110,111,116],.bool true,32⟩,⟨wT [97,110,100],.bool true,33⟩,⟨wT [111,114],.bool true,34⟩,⟨wT [104,111,108,100,115],.bool true,35⟩,⟨wT [108,101,97,115,116],.bool true,36⟩,⟨wT [109,111,115,116],.bool true,37⟩,⟨wT [99,111,112,105,101,115],.bool true,38⟩,⟨wT [98,97,110,110,101,100],.bool true,39⟩,⟨wT [115,105,110,103,108,101],.bool true,40⟩] 41
def OR : QG := [(0,.cel (y1 [0,0,0,0,0,0,0,0,0,1,1,1,1,1,0,0,0,0,0,0,0,0,0,0,0,0,0,0,0,0,0,0,1,0,0,0,0,0,0,0,0,0,0,0,0,0,0,0,0,0,0,0,0,0,0,0,0,0,0,0,0,0,0,0,0,0,0,0,0,0,0,0,0,0,0,0,0,0,0,0,0,0,0,0,0,0,0,0,0,0,0,0,0,0,0,0,0,0,0,0,0,0,0,0,0,0,0,0,0,0,0,0,0,0,0,0,0,0,0,0,0,0,0,0,0,0,0,0,0,0,0,0,0,0,0,0,0,0,0,0,0,0,0,0,0,0,0,0,0,0,0,0,0,0,0,0,0,0,0,0,0,0,0,0,0,0,0,0,0,0,0,0,0,0,0,0,0,0,0,0,0,0,0,0,0,0,0,0,0,0,0,0,0,0,0,0,0,0,0,0,0,0,0,0,0,0,0,0,0,0,0,0,0,0,0,0,0,0,0,0,0,0,0,0,0,0,0,0,0,0,0,0,0,0,0,0,0,0,0,0,0,0,0,0,0,0,0,0,0,0,0,0,0,0,0,0]) 640)]
theorem PO : H4 OR (fun t => qA tP xA tD 5000 284 [] ⟨t, 6⟩ (Qc (.map (some 6)) OR [(6, some Be)])) = done := by kernel_rfl
def AX : Ct := Hr [] (fun i => .map (some i)) Be OR
theorem Se : yZ tP 284 AX := WG (j := 6) Vx Yo Yn kp PO (by decide +kernel) rfl (by decide +kernel) (by decide) Ea
end Go.Ev
end
