/- The engine and the contracts on which the statement stands: no conditions of its own. -/
import Derived.Test.YtfkpdmnabhejpaaGreatDoorMine3
import Derived.Lib.LaidTab
import Derived.ProofKit
import Derived.OpenShut
set_option linter.unusedSimpArgs false
set_option linter.unusedVariables false
set_option linter.unusedSectionVars false
namespace Go.Proofs
open Go.Eng
def Tryz.keyL:List (Option FuncId):=[none,none,none,none,none,none,none,none,some 90,some 91,none,some 13,none,none,none,none,some 34,some 51,some 80,some 52,some 125,some 111,some 110,some 94,some 72,none,none,none,none,some 53,some 54,some 55,none,some 77,some 92,some 95,some 98,some 93,some 122,some 123,some 96,some 99,some 97,some 109,some 47,none,none,none,some 116,some 106,some 117,some 118,none,none,none,some 126,some 127,some 128,some 129,some 107,some 131,some 132,some 130,some 87,some 88,some 50,none,some 49,none,none,none,none,none,none,none,none,some 152,some 153,some 154,some 155,some 81,none,none,none,none,none,none,none,none,none,none,none,none,none,none,none,none,none,none,none,none,none,none,none,none,none,none,none,none,none,none,none,none,none,some 28,none,none,some 86,some 66,some 26,some 61,some 102,none,some 59,some 124,some 60,none,none,none,none,none,none,some 62,some 63,some 64,some 65,some 100,none,none,none,none,none,none,none,none,none,none,some 101,some 133,some 134,none,none,none,none,none,none,none,none,none,some 156,none,none,none,none,none,none,none,none,none,none,none,none,none,none,none,none,none,none,none,none,some 36,none,none,none,none,none,none,none,none,none,none,none,none,none,none,none,none,none,none,none,none,none,none,none,none,none,none,none,none,none,none,none,none,none,none,none,none,none,none,none,none,none,none,none,none,none,none,none,none,none,none,none,none,none,none,none,none,none,none,none,none,none,none,none,none,none,none,none,none,none,none,none,none,none,none,none,none,none,none,none,none,none,none,none,none,none,none,none,none,none,none,none,none,none,none,none,none,none,none,none,none,none,none,none,none,none,none,none,none,none,none,none,none,none,none,none,none,none,none,none,none,none,some 30,some 14,some 12,some 11,some 68,some 56,some 20,some 9,some 48,some 40,some 82,some 79,some 38,some 37,some 39,some 89,some 83,some 84,some 78,some 3,none,none,none,none,none,none,some 8,some 10,none,none,none,none,none,none,none,none,none,none,none,none,none,none,none,none,none,none,none,none,none,some 41,some 42,some 43,some 44,some 45,some 46,none,some 69,none,none,none,none,none,none,none,none,none,none,none,none,none,none,none,some 85,none,none,none,none,none,none,none,none,none,none,none,none,none,none,none,none,none,none,none,none,none,none,none,none,none,none,none,none,none,none,none,none,none,none,none,none,none,none,none,none,none,none,none,none,none,none,none,none,none,none,none,none]
def Tryz.fkeyL:List (Option Nat):=[none,none,none,some 321,none,none,none,none,some 328,some 309,some 329,some 305,some 304,some 11,some 303,none,none,none,none,none,some 308,none,none,none,none,none,some 119,none,some 114,none,some 302,none,none,none,some 16,none,some 180,some 315,some 314,some 316,some 311,some 351,some 352,some 353,some 354,some 355,some 356,some 44,some 310,some 67,some 65,some 17,some 19,some 29,some 30,some 31,some 307,none,none,some 123,some 125,some 120,some 132,some 133,some 134,some 135,some 118,none,some 306,some 358,none,none,some 24,none,none,none,none,some 33,some 320,some 313,some 18,some 80,some 312,some 318,some 319,some 374,some 117,some 63,some 64,some 317,some 8,some 9,some 34,some 37,some 23,some 35,some 40,some 42,some 36,some 41,some 136,some 147,some 121,none,none,none,some 49,some 59,none,some 43,some 22,some 21,none,none,none,none,some 48,some 50,some 51,none,none,none,some 38,some 39,some 124,some 20,some 55,some 56,some 57,some 58,some 62,some 60,some 61,some 148,some 149,none,none,none,none,none,none,none,none,none,none,none,none,none,none,none,none,none,some 76,some 77,some 78,some 79,some 159]
def Tryz.T:Tab:={ fkey:=fun f=>(Tryz.fkeyL[f]?).join,gkey:=fun g=>if g=4 then some 0 else none }
abbrev OkC (p:Program) (n:Nat):Prop:=∃fn,p.funcs[n]?=some fn∧fn.body.isNone=false∧(fn.name == "runtime.NumGoroutine")=false
abbrev OkF (p:Program) (T:Tab) (n:Nat) (x:XF):Prop:=∃fn,p.funcs[n]?=some fn∧cFunc p T fn=some x∧x.body.regsOk=true
theorem Tryz.okc8:OkC Tryz.prog 90:=⟨_,Tryz.func90,by kernel_rfl,by kernel_rfl⟩
theorem Tryz.okc9:OkC Tryz.prog 91:=⟨_,Tryz.func91,by kernel_rfl,by kernel_rfl⟩
theorem Tryz.okc11:OkC Tryz.prog 13:=⟨_,Tryz.func13,by kernel_rfl,by kernel_rfl⟩
theorem Tryz.okc16:OkC Tryz.prog 34:=⟨_,Tryz.func34,by kernel_rfl,by kernel_rfl⟩
theorem Tryz.okc17:OkC Tryz.prog 51:=⟨_,Tryz.func51,by kernel_rfl,by kernel_rfl⟩
theorem Tryz.okc18:OkC Tryz.prog 80:=⟨_,Tryz.func80,by kernel_rfl,by kernel_rfl⟩
theorem Tryz.okc19:OkC Tryz.prog 52:=⟨_,Tryz.func52,by kernel_rfl,by kernel_rfl⟩
theorem Tryz.okc20:OkC Tryz.prog 125:=⟨_,Tryz.func125,by kernel_rfl,by kernel_rfl⟩
theorem Tryz.okc21:OkC Tryz.prog 111:=⟨_,Tryz.func111,by kernel_rfl,by kernel_rfl⟩
theorem Tryz.okc22:OkC Tryz.prog 110:=⟨_,Tryz.func110,by kernel_rfl,by kernel_rfl⟩
theorem Tryz.okc23:OkC Tryz.prog 94:=⟨_,Tryz.func94,by kernel_rfl,by kernel_rfl⟩
theorem Tryz.okc24:OkC Tryz.prog 72:=⟨_,Tryz.func72,by kernel_rfl,by kernel_rfl⟩
theorem Tryz.okc29:OkC Tryz.prog 53:=⟨_,Tryz.func53,by kernel_rfl,by kernel_rfl⟩
theorem Tryz.okc30:OkC Tryz.prog 54:=⟨_,Tryz.func54,by kernel_rfl,by kernel_rfl⟩
theorem Tryz.okc31:OkC Tryz.prog 55:=⟨_,Tryz.func55,by kernel_rfl,by kernel_rfl⟩
theorem Tryz.okc33:OkC Tryz.prog 77:=⟨_,Tryz.func77,by kernel_rfl,by kernel_rfl⟩
theorem Tryz.okc34:OkC Tryz.prog 92:=⟨_,Tryz.func92,by kernel_rfl,by kernel_rfl⟩
theorem Tryz.okc35:OkC Tryz.prog 95:=⟨_,Tryz.func95,by kernel_rfl,by kernel_rfl⟩
theorem Tryz.okc36:OkC Tryz.prog 98:=⟨_,Tryz.func98,by kernel_rfl,by kernel_rfl⟩
theorem Tryz.okc37:OkC Tryz.prog 93:=⟨_,Tryz.func93,by kernel_rfl,by kernel_rfl⟩
theorem Tryz.okc38:OkC Tryz.prog 122:=⟨_,Tryz.func122,by kernel_rfl,by kernel_rfl⟩
theorem Tryz.okc39:OkC Tryz.prog 123:=⟨_,Tryz.func123,by kernel_rfl,by kernel_rfl⟩
theorem Tryz.okc40:OkC Tryz.prog 96:=⟨_,Tryz.func96,by kernel_rfl,by kernel_rfl⟩
theorem Tryz.okc41:OkC Tryz.prog 99:=⟨_,Tryz.func99,by kernel_rfl,by kernel_rfl⟩
theorem Tryz.okc42:OkC Tryz.prog 97:=⟨_,Tryz.func97,by kernel_rfl,by kernel_rfl⟩
theorem Tryz.okc43:OkC Tryz.prog 109:=⟨_,Tryz.func109,by kernel_rfl,by kernel_rfl⟩
theorem Tryz.okc44:OkC Tryz.prog 47:=⟨_,Tryz.func47,by kernel_rfl,by kernel_rfl⟩
theorem Tryz.okc48:OkC Tryz.prog 116:=⟨_,Tryz.func116,by kernel_rfl,by kernel_rfl⟩
theorem Tryz.okc49:OkC Tryz.prog 106:=⟨_,Tryz.func106,by kernel_rfl,by kernel_rfl⟩
theorem Tryz.okc50:OkC Tryz.prog 117:=⟨_,Tryz.func117,by kernel_rfl,by kernel_rfl⟩
theorem Tryz.okc51:OkC Tryz.prog 118:=⟨_,Tryz.func118,by kernel_rfl,by kernel_rfl⟩
theorem Tryz.okc55:OkC Tryz.prog 126:=⟨_,Tryz.func126,by kernel_rfl,by kernel_rfl⟩
theorem Tryz.okc56:OkC Tryz.prog 127:=⟨_,Tryz.func127,by kernel_rfl,by kernel_rfl⟩
theorem Tryz.okc57:OkC Tryz.prog 128:=⟨_,Tryz.func128,by kernel_rfl,by kernel_rfl⟩
theorem Tryz.okc58:OkC Tryz.prog 129:=⟨_,Tryz.func129,by kernel_rfl,by kernel_rfl⟩
theorem Tryz.okc59:OkC Tryz.prog 107:=⟨_,Tryz.func107,by kernel_rfl,by kernel_rfl⟩
theorem Tryz.okc60:OkC Tryz.prog 131:=⟨_,Tryz.func131,by kernel_rfl,by kernel_rfl⟩
theorem Tryz.okc61:OkC Tryz.prog 132:=⟨_,Tryz.func132,by kernel_rfl,by kernel_rfl⟩
theorem Tryz.okc62:OkC Tryz.prog 130:=⟨_,Tryz.func130,by kernel_rfl,by kernel_rfl⟩
theorem Tryz.okc63:OkC Tryz.prog 87:=⟨_,Tryz.func87,by kernel_rfl,by kernel_rfl⟩
theorem Tryz.okc64:OkC Tryz.prog 88:=⟨_,Tryz.func88,by kernel_rfl,by kernel_rfl⟩
theorem Tryz.okc65:OkC Tryz.prog 50:=⟨_,Tryz.func50,by kernel_rfl,by kernel_rfl⟩
theorem Tryz.okc67:OkC Tryz.prog 49:=⟨_,Tryz.func49,by kernel_rfl,by kernel_rfl⟩
theorem Tryz.okc76:OkC Tryz.prog 152:=⟨_,Tryz.func152,by kernel_rfl,by kernel_rfl⟩
theorem Tryz.okc77:OkC Tryz.prog 153:=⟨_,Tryz.func153,by kernel_rfl,by kernel_rfl⟩
theorem Tryz.okc78:OkC Tryz.prog 154:=⟨_,Tryz.func154,by kernel_rfl,by kernel_rfl⟩
theorem Tryz.okc79:OkC Tryz.prog 155:=⟨_,Tryz.func155,by kernel_rfl,by kernel_rfl⟩
theorem Tryz.okc80:OkC Tryz.prog 81:=⟨_,Tryz.func81,by kernel_rfl,by kernel_rfl⟩
theorem Tryz.okc114:OkC Tryz.prog 28:=⟨_,Tryz.func28,by kernel_rfl,by kernel_rfl⟩
theorem Tryz.okc117:OkC Tryz.prog 86:=⟨_,Tryz.func86,by kernel_rfl,by kernel_rfl⟩
theorem Tryz.okc118:OkC Tryz.prog 66:=⟨_,Tryz.func66,by kernel_rfl,by kernel_rfl⟩
theorem Tryz.okc119:OkC Tryz.prog 26:=⟨_,Tryz.func26,by kernel_rfl,by kernel_rfl⟩
theorem Tryz.okc120:OkC Tryz.prog 61:=⟨_,Tryz.func61,by kernel_rfl,by kernel_rfl⟩
theorem Tryz.okc121:OkC Tryz.prog 102:=⟨_,Tryz.func102,by kernel_rfl,by kernel_rfl⟩
theorem Tryz.okc123:OkC Tryz.prog 59:=⟨_,Tryz.func59,by kernel_rfl,by kernel_rfl⟩
theorem Tryz.okc124:OkC Tryz.prog 124:=⟨_,Tryz.func124,by kernel_rfl,by kernel_rfl⟩
theorem Tryz.okc125:OkC Tryz.prog 60:=⟨_,Tryz.func60,by kernel_rfl,by kernel_rfl⟩
theorem Tryz.okc132:OkC Tryz.prog 62:=⟨_,Tryz.func62,by kernel_rfl,by kernel_rfl⟩
theorem Tryz.okc133:OkC Tryz.prog 63:=⟨_,Tryz.func63,by kernel_rfl,by kernel_rfl⟩
theorem Tryz.okc134:OkC Tryz.prog 64:=⟨_,Tryz.func64,by kernel_rfl,by kernel_rfl⟩
theorem Tryz.okc135:OkC Tryz.prog 65:=⟨_,Tryz.func65,by kernel_rfl,by kernel_rfl⟩
theorem Tryz.okc136:OkC Tryz.prog 100:=⟨_,Tryz.func100,by kernel_rfl,by kernel_rfl⟩
theorem Tryz.okc147:OkC Tryz.prog 101:=⟨_,Tryz.func101,by kernel_rfl,by kernel_rfl⟩
theorem Tryz.okc148:OkC Tryz.prog 133:=⟨_,Tryz.func133,by kernel_rfl,by kernel_rfl⟩
theorem Tryz.okc149:OkC Tryz.prog 134:=⟨_,Tryz.func134,by kernel_rfl,by kernel_rfl⟩
theorem Tryz.okc159:OkC Tryz.prog 156:=⟨_,Tryz.func156,by kernel_rfl,by kernel_rfl⟩
theorem Tryz.okc180:OkC Tryz.prog 36:=⟨_,Tryz.func36,by kernel_rfl,by kernel_rfl⟩
theorem Tryz.okc302:OkC Tryz.prog 30:=⟨_,Tryz.func30,by kernel_rfl,by kernel_rfl⟩
theorem Tryz.okc303:OkC Tryz.prog 14:=⟨_,Tryz.func14,by kernel_rfl,by kernel_rfl⟩
theorem Tryz.okc304:OkC Tryz.prog 12:=⟨_,Tryz.func12,by kernel_rfl,by kernel_rfl⟩
theorem Tryz.okc305:OkC Tryz.prog 11:=⟨_,Tryz.func11,by kernel_rfl,by kernel_rfl⟩
theorem Tryz.okc306:OkC Tryz.prog 68:=⟨_,Tryz.func68,by kernel_rfl,by kernel_rfl⟩
theorem Tryz.okc307:OkC Tryz.prog 56:=⟨_,Tryz.func56,by kernel_rfl,by kernel_rfl⟩
theorem Tryz.okc308:OkC Tryz.prog 20:=⟨_,Tryz.func20,by kernel_rfl,by kernel_rfl⟩
theorem Tryz.okc309:OkC Tryz.prog 9:=⟨_,Tryz.func9,by kernel_rfl,by kernel_rfl⟩
theorem Tryz.okc310:OkC Tryz.prog 48:=⟨_,Tryz.func48,by kernel_rfl,by kernel_rfl⟩
theorem Tryz.okc311:OkC Tryz.prog 40:=⟨_,Tryz.func40,by kernel_rfl,by kernel_rfl⟩
theorem Tryz.okc312:OkC Tryz.prog 82:=⟨_,Tryz.func82,by kernel_rfl,by kernel_rfl⟩
theorem Tryz.okc313:OkC Tryz.prog 79:=⟨_,Tryz.func79,by kernel_rfl,by kernel_rfl⟩
theorem Tryz.okc314:OkC Tryz.prog 38:=⟨_,Tryz.func38,by kernel_rfl,by kernel_rfl⟩
theorem Tryz.okc315:OkC Tryz.prog 37:=⟨_,Tryz.func37,by kernel_rfl,by kernel_rfl⟩
theorem Tryz.okc316:OkC Tryz.prog 39:=⟨_,Tryz.func39,by kernel_rfl,by kernel_rfl⟩
theorem Tryz.okc317:OkC Tryz.prog 89:=⟨_,Tryz.func89,by kernel_rfl,by kernel_rfl⟩
theorem Tryz.okc318:OkC Tryz.prog 83:=⟨_,Tryz.func83,by kernel_rfl,by kernel_rfl⟩
theorem Tryz.okc319:OkC Tryz.prog 84:=⟨_,Tryz.func84,by kernel_rfl,by kernel_rfl⟩
theorem Tryz.okc320:OkC Tryz.prog 78:=⟨_,Tryz.func78,by kernel_rfl,by kernel_rfl⟩
theorem Tryz.okc321:OkC Tryz.prog 3:=⟨_,Tryz.func3,by kernel_rfl,by kernel_rfl⟩
theorem Tryz.okc328:OkC Tryz.prog 8:=⟨_,Tryz.func8,by kernel_rfl,by kernel_rfl⟩
theorem Tryz.okc329:OkC Tryz.prog 10:=⟨_,Tryz.func10,by kernel_rfl,by kernel_rfl⟩
theorem Tryz.okc351:OkC Tryz.prog 41:=⟨_,Tryz.func41,by kernel_rfl,by kernel_rfl⟩
theorem Tryz.okc352:OkC Tryz.prog 42:=⟨_,Tryz.func42,by kernel_rfl,by kernel_rfl⟩
theorem Tryz.okc353:OkC Tryz.prog 43:=⟨_,Tryz.func43,by kernel_rfl,by kernel_rfl⟩
theorem Tryz.okc354:OkC Tryz.prog 44:=⟨_,Tryz.func44,by kernel_rfl,by kernel_rfl⟩
theorem Tryz.okc355:OkC Tryz.prog 45:=⟨_,Tryz.func45,by kernel_rfl,by kernel_rfl⟩
theorem Tryz.okc356:OkC Tryz.prog 46:=⟨_,Tryz.func46,by kernel_rfl,by kernel_rfl⟩
theorem Tryz.okc358:OkC Tryz.prog 69:=⟨_,Tryz.func69,by kernel_rfl,by kernel_rfl⟩
theorem Tryz.okc374:OkC Tryz.prog 85:=⟨_,Tryz.func85,by kernel_rfl,by kernel_rfl⟩
theorem Tryz.okf8:OkF Tryz.prog Tryz.T 90 zv8:=⟨_,Tryz.func90,by kernel_rfl,by kernel_rfl⟩
theorem Tryz.okf9:OkF Tryz.prog Tryz.T 91 zwd:=⟨_,Tryz.func91,by kernel_rfl,by kernel_rfl⟩
theorem Tryz.okf11:OkF Tryz.prog Tryz.T 13 zva:=⟨_,Tryz.func13,by kernel_rfl,by kernel_rfl⟩
theorem Tryz.okf16:OkF Tryz.prog Tryz.T 34 zuF:=⟨_,Tryz.func34,by kernel_rfl,by kernel_rfl⟩
theorem Tryz.okf17:OkF Tryz.prog Tryz.T 51 zwu:=⟨_,Tryz.func51,by kernel_rfl,by kernel_rfl⟩
theorem Tryz.okf18:OkF Tryz.prog Tryz.T 80 zwa:=⟨_,Tryz.func80,by kernel_rfl,by kernel_rfl⟩
theorem Tryz.okf19:OkF Tryz.prog Tryz.T 52 zuH:=⟨_,Tryz.func52,by kernel_rfl,by kernel_rfl⟩
theorem Tryz.okf20:OkF Tryz.prog Tryz.T 125 zvD:=⟨_,Tryz.func125,by kernel_rfl,by kernel_rfl⟩
theorem Tryz.okf21:OkF Tryz.prog Tryz.T 111 zvO:=⟨_,Tryz.func111,by kernel_rfl,by kernel_rfl⟩
theorem Tryz.okf22:OkF Tryz.prog Tryz.T 110 zuU:=⟨_,Tryz.func110,by kernel_rfl,by kernel_rfl⟩
theorem Tryz.okf23:OkF Tryz.prog Tryz.T 94 zwi:=⟨_,Tryz.func94,by kernel_rfl,by kernel_rfl⟩
theorem Tryz.okf24:OkF Tryz.prog Tryz.T 72 zu4:=⟨_,Tryz.func72,by kernel_rfl,by kernel_rfl⟩
theorem Tryz.okf29:OkF Tryz.prog Tryz.T 53 zwb:=⟨_,Tryz.func53,by kernel_rfl,by kernel_rfl⟩
theorem Tryz.okf30:OkF Tryz.prog Tryz.T 54 zvg:=⟨_,Tryz.func54,by kernel_rfl,by kernel_rfl⟩
theorem Tryz.okf31:OkF Tryz.prog Tryz.T 55 zvT:=⟨_,Tryz.func55,by kernel_rfl,by kernel_rfl⟩
theorem Tryz.okf34:OkF Tryz.prog Tryz.T 92 zvL:=⟨_,Tryz.func92,by kernel_rfl,by kernel_rfl⟩
theorem Tryz.okf35:OkF Tryz.prog Tryz.T 95 zuJ:=⟨_,Tryz.func95,by kernel_rfl,by kernel_rfl⟩
theorem Tryz.okf36:OkF Tryz.prog Tryz.T 98 zvr:=⟨_,Tryz.func98,by kernel_rfl,by kernel_rfl⟩
theorem Tryz.okf37:OkF Tryz.prog Tryz.T 93 zvP:=⟨_,Tryz.func93,by kernel_rfl,by kernel_rfl⟩
theorem Tryz.okf38:OkF Tryz.prog Tryz.T 122 zv9:=⟨_,Tryz.func122,by kernel_rfl,by kernel_rfl⟩
theorem Tryz.okf39:OkF Tryz.prog Tryz.T 123 zv6:=⟨_,Tryz.func123,by kernel_rfl,by kernel_rfl⟩
theorem Tryz.okf40:OkF Tryz.prog Tryz.T 96 zwc:=⟨_,Tryz.func96,by kernel_rfl,by kernel_rfl⟩
theorem Tryz.okf41:OkF Tryz.prog Tryz.T 99 zvh:=⟨_,Tryz.func99,by kernel_rfl,by kernel_rfl⟩
theorem Tryz.okf42:OkF Tryz.prog Tryz.T 97 zuL:=⟨_,Tryz.func97,by kernel_rfl,by kernel_rfl⟩
theorem Tryz.okf43:OkF Tryz.prog Tryz.T 109 zwe:=⟨_,Tryz.func109,by kernel_rfl,by kernel_rfl⟩
theorem Tryz.okf44:OkF Tryz.prog Tryz.T 47 zvs:=⟨_,Tryz.func47,by kernel_rfl,by kernel_rfl⟩
theorem Tryz.okf48:OkF Tryz.prog Tryz.T 116 zvd:=⟨_,Tryz.func116,by kernel_rfl,by kernel_rfl⟩
theorem Tryz.okf49:OkF Tryz.prog Tryz.T 106 zu8:=⟨_,Tryz.func106,by kernel_rfl,by kernel_rfl⟩
theorem Tryz.okf55:OkF Tryz.prog Tryz.T 126 zuK:=⟨_,Tryz.func126,by kernel_rfl,by kernel_rfl⟩
theorem Tryz.okf56:OkF Tryz.prog Tryz.T 127 zvb:=⟨_,Tryz.func127,by kernel_rfl,by kernel_rfl⟩
theorem Tryz.okf57:OkF Tryz.prog Tryz.T 128 zvN:=⟨_,Tryz.func128,by kernel_rfl,by kernel_rfl⟩
theorem Tryz.okf58:OkF Tryz.prog Tryz.T 129 zvj:=⟨_,Tryz.func129,by kernel_rfl,by kernel_rfl⟩
theorem Tryz.okf59:OkF Tryz.prog Tryz.T 107 zu0:=⟨_,Tryz.func107,by kernel_rfl,by kernel_rfl⟩
theorem Tryz.okf60:OkF Tryz.prog Tryz.T 131 zuY:=⟨_,Tryz.func131,by kernel_rfl,by kernel_rfl⟩
theorem Tryz.okf61:OkF Tryz.prog Tryz.T 132 zuQ:=⟨_,Tryz.func132,by kernel_rfl,by kernel_rfl⟩
theorem Tryz.okf62:OkF Tryz.prog Tryz.T 130 zuN:=⟨_,Tryz.func130,by kernel_rfl,by kernel_rfl⟩
theorem Tryz.okf63:OkF Tryz.prog Tryz.T 87 zuW:=⟨_,Tryz.func87,by kernel_rfl,by kernel_rfl⟩
theorem Tryz.okf64:OkF Tryz.prog Tryz.T 88 zuI:=⟨_,Tryz.func88,by kernel_rfl,by kernel_rfl⟩
theorem Tryz.okf65:OkF Tryz.prog Tryz.T 50 zwk:=⟨_,Tryz.func50,by kernel_rfl,by kernel_rfl⟩
theorem Tryz.okf67:OkF Tryz.prog Tryz.T 49 zvR:=⟨_,Tryz.func49,by kernel_rfl,by kernel_rfl⟩
theorem Tryz.okf76:OkF Tryz.prog Tryz.T 152 zu2:=⟨_,Tryz.func152,by kernel_rfl,by kernel_rfl⟩
theorem Tryz.okf77:OkF Tryz.prog Tryz.T 153 zu5:=⟨_,Tryz.func153,by kernel_rfl,by kernel_rfl⟩
theorem Tryz.okf78:OkF Tryz.prog Tryz.T 154 zu6:=⟨_,Tryz.func154,by kernel_rfl,by kernel_rfl⟩
theorem Tryz.okf79:OkF Tryz.prog Tryz.T 155 zuX:=⟨_,Tryz.func155,by kernel_rfl,by kernel_rfl⟩
theorem Tryz.okf80:OkF Tryz.prog Tryz.T 81 zuG:=⟨_,Tryz.func81,by kernel_rfl,by kernel_rfl⟩
theorem Tryz.okf114:OkF Tryz.prog Tryz.T 28 zwH:=⟨_,Tryz.func28,by kernel_rfl,by kernel_rfl⟩
theorem Tryz.okf117:OkF Tryz.prog Tryz.T 86 zvW:=⟨_,Tryz.func86,by kernel_rfl,by kernel_rfl⟩
theorem Tryz.okf118:OkF Tryz.prog Tryz.T 66 zvl:=⟨_,Tryz.func66,by kernel_rfl,by kernel_rfl⟩
theorem Tryz.okf119:OkF Tryz.prog Tryz.T 26 zws:=⟨_,Tryz.func26,by kernel_rfl,by kernel_rfl⟩
theorem Tryz.okf120:OkF Tryz.prog Tryz.T 61 zwo:=⟨_,Tryz.func61,by kernel_rfl,by kernel_rfl⟩
theorem Tryz.okf121:OkF Tryz.prog Tryz.T 102 zwr:=⟨_,Tryz.func102,by kernel_rfl,by kernel_rfl⟩
theorem Tryz.okf123:OkF Tryz.prog Tryz.T 59 zwn:=⟨_,Tryz.func59,by kernel_rfl,by kernel_rfl⟩
theorem Tryz.okf124:OkF Tryz.prog Tryz.T 124 zvq:=⟨_,Tryz.func124,by kernel_rfl,by kernel_rfl⟩
theorem Tryz.okf125:OkF Tryz.prog Tryz.T 60 zwp:=⟨_,Tryz.func60,by kernel_rfl,by kernel_rfl⟩
theorem Tryz.okf132:OkF Tryz.prog Tryz.T 62 zvA:=⟨_,Tryz.func62,by kernel_rfl,by kernel_rfl⟩
theorem Tryz.okf133:OkF Tryz.prog Tryz.T 63 zwm:=⟨_,Tryz.func63,by kernel_rfl,by kernel_rfl⟩
theorem Tryz.okf134:OkF Tryz.prog Tryz.T 64 zvc:=⟨_,Tryz.func64,by kernel_rfl,by kernel_rfl⟩
theorem Tryz.okf135:OkF Tryz.prog Tryz.T 65 zvU:=⟨_,Tryz.func65,by kernel_rfl,by kernel_rfl⟩
theorem Tryz.okf136:OkF Tryz.prog Tryz.T 100 zuV:=⟨_,Tryz.func100,by kernel_rfl,by kernel_rfl⟩
theorem Tryz.okf147:OkF Tryz.prog Tryz.T 101 zwK:=⟨_,Tryz.func101,by kernel_rfl,by kernel_rfl⟩
theorem Tryz.okf148:OkF Tryz.prog Tryz.T 133 zu3:=⟨_,Tryz.func133,by kernel_rfl,by kernel_rfl⟩
theorem Tryz.okf149:OkF Tryz.prog Tryz.T 134 zvV:=⟨_,Tryz.func134,by kernel_rfl,by kernel_rfl⟩
theorem Tryz.okf159:OkF Tryz.prog Tryz.T 156 zvB:=⟨_,Tryz.func156,by kernel_rfl,by kernel_rfl⟩
theorem Tryz.okf180:OkF Tryz.prog Tryz.T 36 zuT:=⟨_,Tryz.func36,by kernel_rfl,by kernel_rfl⟩
theorem Tryz.okf302:OkF Tryz.prog Tryz.T 30 zvG:=⟨_,Tryz.func30,by kernel_rfl,by kernel_rfl⟩
theorem Tryz.okf303:OkF Tryz.prog Tryz.T 14 zvM:=⟨_,Tryz.func14,by kernel_rfl,by kernel_rfl⟩
theorem Tryz.okf304:OkF Tryz.prog Tryz.T 12 zvS:=⟨_,Tryz.func12,by kernel_rfl,by kernel_rfl⟩
theorem Tryz.okf305:OkF Tryz.prog Tryz.T 11 zuB:=⟨_,Tryz.func11,by kernel_rfl,by kernel_rfl⟩
theorem Tryz.okf306:OkF Tryz.prog Tryz.T 68 zv7:=⟨_,Tryz.func68,by kernel_rfl,by kernel_rfl⟩
theorem Tryz.okf307:OkF Tryz.prog Tryz.T 56 zwq:=⟨_,Tryz.func56,by kernel_rfl,by kernel_rfl⟩
theorem Tryz.okf308:OkF Tryz.prog Tryz.T 20 zuR:=⟨_,Tryz.func20,by kernel_rfl,by kernel_rfl⟩
theorem Tryz.okf309:OkF Tryz.prog Tryz.T 9 zuP:=⟨_,Tryz.func9,by kernel_rfl,by kernel_rfl⟩
theorem Tryz.okf310:OkF Tryz.prog Tryz.T 48 zwg:=⟨_,Tryz.func48,by kernel_rfl,by kernel_rfl⟩
theorem Tryz.okf311:OkF Tryz.prog Tryz.T 40 zu9:=⟨_,Tryz.func40,by kernel_rfl,by kernel_rfl⟩
theorem Tryz.okf312:OkF Tryz.prog Tryz.T 82 zvQ:=⟨_,Tryz.func82,by kernel_rfl,by kernel_rfl⟩
theorem Tryz.okf313:OkF Tryz.prog Tryz.T 79 zvE:=⟨_,Tryz.func79,by kernel_rfl,by kernel_rfl⟩
theorem Tryz.okf314:OkF Tryz.prog Tryz.T 38 zvp:=⟨_,Tryz.func38,by kernel_rfl,by kernel_rfl⟩
theorem Tryz.okf315:OkF Tryz.prog Tryz.T 37 zuC:=⟨_,Tryz.func37,by kernel_rfl,by kernel_rfl⟩
theorem Tryz.okf316:OkF Tryz.prog Tryz.T 39 zvf:=⟨_,Tryz.func39,by kernel_rfl,by kernel_rfl⟩
theorem Tryz.okf317:OkF Tryz.prog Tryz.T 89 zvC:=⟨_,Tryz.func89,by kernel_rfl,by kernel_rfl⟩
theorem Tryz.okf318:OkF Tryz.prog Tryz.T 83 zuy:=⟨_,Tryz.func83,by kernel_rfl,by kernel_rfl⟩
theorem Tryz.okf319:OkF Tryz.prog Tryz.T 84 zvH:=⟨_,Tryz.func84,by kernel_rfl,by kernel_rfl⟩
theorem Tryz.okf320:OkF Tryz.prog Tryz.T 78 zve:=⟨_,Tryz.func78,by kernel_rfl,by kernel_rfl⟩
theorem Tryz.okf321:OkF Tryz.prog Tryz.T 3 zvi:=⟨_,Tryz.func3,by kernel_rfl,by kernel_rfl⟩
theorem Tryz.okf328:OkF Tryz.prog Tryz.T 8 zvy:=⟨_,Tryz.func8,by kernel_rfl,by kernel_rfl⟩
theorem Tryz.okf329:OkF Tryz.prog Tryz.T 10 zuS:=⟨_,Tryz.func10,by kernel_rfl,by kernel_rfl⟩
theorem Tryz.okf351:OkF Tryz.prog Tryz.T 41 zvk:=⟨_,Tryz.func41,by kernel_rfl,by kernel_rfl⟩
theorem Tryz.okf352:OkF Tryz.prog Tryz.T 42 zuE:=⟨_,Tryz.func42,by kernel_rfl,by kernel_rfl⟩
theorem Tryz.okf353:OkF Tryz.prog Tryz.T 43 zvF:=⟨_,Tryz.func43,by kernel_rfl,by kernel_rfl⟩
theorem Tryz.okf354:OkF Tryz.prog Tryz.T 44 zvw:=⟨_,Tryz.func44,by kernel_rfl,by kernel_rfl⟩
theorem Tryz.okf355:OkF Tryz.prog Tryz.T 45 zwl:=⟨_,Tryz.func45,by kernel_rfl,by kernel_rfl⟩
theorem Tryz.okf356:OkF Tryz.prog Tryz.T 46 zvt:=⟨_,Tryz.func46,by kernel_rfl,by kernel_rfl⟩
theorem Tryz.okf358:OkF Tryz.prog Tryz.T 69 zwt:=⟨_,Tryz.func69,by kernel_rfl,by kernel_rfl⟩
theorem Tryz.okf374:OkF Tryz.prog Tryz.T 85 zwh:=⟨_,Tryz.func85,by kernel_rfl,by kernel_rfl⟩
theorem Tryz.allc:AllCal Tryz.prog Tryz.keyL:=⟨Tryz.okc8,Tryz.okc9,Tryz.okc11,Tryz.okc16,Tryz.okc17,Tryz.okc18,Tryz.okc19,Tryz.okc20,Tryz.okc21,Tryz.okc22,Tryz.okc23,Tryz.okc24,Tryz.okc29,Tryz.okc30,Tryz.okc31,Tryz.okc33,Tryz.okc34,Tryz.okc35,Tryz.okc36,Tryz.okc37,Tryz.okc38,Tryz.okc39,Tryz.okc40,Tryz.okc41,Tryz.okc42,Tryz.okc43,Tryz.okc44,Tryz.okc48,Tryz.okc49,Tryz.okc50,Tryz.okc51,Tryz.okc55,Tryz.okc56,Tryz.okc57,Tryz.okc58,Tryz.okc59,Tryz.okc60,Tryz.okc61,Tryz.okc62,Tryz.okc63,Tryz.okc64,Tryz.okc65,Tryz.okc67,Tryz.okc76,Tryz.okc77,Tryz.okc78,Tryz.okc79,Tryz.okc80,Tryz.okc114,Tryz.okc117,Tryz.okc118,Tryz.okc119,Tryz.okc120,Tryz.okc121,Tryz.okc123,Tryz.okc124,Tryz.okc125,Tryz.okc132,Tryz.okc133,Tryz.okc134,Tryz.okc135,Tryz.okc136,Tryz.okc147,Tryz.okc148,Tryz.okc149,Tryz.okc159,Tryz.okc180,Tryz.okc302,Tryz.okc303,Tryz.okc304,Tryz.okc305,Tryz.okc306,Tryz.okc307,Tryz.okc308,Tryz.okc309,Tryz.okc310,Tryz.okc311,Tryz.okc312,Tryz.okc313,Tryz.okc314,Tryz.okc315,Tryz.okc316,Tryz.okc317,Tryz.okc318,Tryz.okc319,Tryz.okc320,Tryz.okc321,Tryz.okc328,Tryz.okc329,Tryz.okc351,Tryz.okc352,Tryz.okc353,Tryz.okc354,Tryz.okc355,Tryz.okc356,Tryz.okc358,Tryz.okc374,True.intro⟩
theorem Tryz.allf:AllOk Tryz.prog Tryz.T progL Tryz.keyL:=⟨Tryz.okf8,Tryz.okf9,Tryz.okf11,Tryz.okf16,Tryz.okf17,Tryz.okf18,Tryz.okf19,Tryz.okf20,Tryz.okf21,Tryz.okf22,Tryz.okf23,Tryz.okf24,Tryz.okf29,Tryz.okf30,Tryz.okf31,Tryz.okf34,Tryz.okf35,Tryz.okf36,Tryz.okf37,Tryz.okf38,Tryz.okf39,Tryz.okf40,Tryz.okf41,Tryz.okf42,Tryz.okf43,Tryz.okf44,Tryz.okf48,Tryz.okf49,Tryz.okf55,Tryz.okf56,Tryz.okf57,Tryz.okf58,Tryz.okf59,Tryz.okf60,Tryz.okf61,Tryz.okf62,Tryz.okf63,Tryz.okf64,Tryz.okf65,Tryz.okf67,Tryz.okf76,Tryz.okf77,Tryz.okf78,Tryz.okf79,Tryz.okf80,Tryz.okf114,Tryz.okf117,Tryz.okf118,Tryz.okf119,Tryz.okf120,Tryz.okf121,Tryz.okf123,Tryz.okf124,Tryz.okf125,Tryz.okf132,Tryz.okf133,Tryz.okf134,Tryz.okf135,Tryz.okf136,Tryz.okf147,Tryz.okf148,Tryz.okf149,Tryz.okf159,Tryz.okf180,Tryz.okf302,Tryz.okf303,Tryz.okf304,Tryz.okf305,Tryz.okf306,Tryz.okf307,Tryz.okf308,Tryz.okf309,Tryz.okf310,Tryz.okf311,Tryz.okf312,Tryz.okf313,Tryz.okf314,Tryz.okf315,Tryz.okf316,Tryz.okf317,Tryz.okf318,Tryz.okf319,Tryz.okf320,Tryz.okf321,Tryz.okf328,Tryz.okf329,Tryz.okf351,Tryz.okf352,Tryz.okf353,Tryz.okf354,Tryz.okf355,Tryz.okf356,Tryz.okf358,Tryz.okf374,True.intro⟩
theorem Tryz.libok:LibOk Tryz.prog Tryz.lren (fun f=>(Tryz.keyL[f]?).join) Tryz.T 4 where
 l105:=Tryz.l105
 l171:=Tryz.l171
 lX:=Tryz.lX
 gname:=by kernel_rfl
 gkey:=rfl
 k50:=rfl
 k51:=rfl
 o130:=fun g h=>by have h:(none:Option FuncId)=some g:=h;cases h
 o131:=fun g h=>by have h:(none:Option FuncId)=some g:=h;cases h
 o222:=fun g h=>by have h:(none:Option FuncId)=some g:=h;cases h
theorem Tryz.mixed:Tryz.prog.follows .mixedOrders=true:=by kernel_rfl
theorem Tryz.progok1:ProgOk Tryz.prog (fun f=>(Tryz.keyL[f]?).join) Tryz.T E1.prog:=zmv Tryz.mixed Tryz.allc Tryz.allf Tryz.libok
theorem Tryz.gk0:∀g n,Tryz.T.gkey g=some n→n≤4:=fun g n h=>by
 have h:(if g=4 then some 0 else none)=some n:=h
 split at h
 ·cases h;decide
 ·cases h
theorem Tryz.progok:ProgOk Tryz.prog (fun f=>(Tryz.keyL[f]?).join) Tryz.T E0.prog:=zmu Tryz.mixed Tryz.allc Tryz.allf Tryz.libok fun {g} hk=>by
 obtain rfl:g=77:=(Option.some.inj hk).symm
 exact fun {_ _ _ _ _ _ _ _} e TO RL S=>zmN (pre:=Tryz.strPre) (tail:=Tryz.strTail) Tryz.progok1 KE1 Tryz.gk0 (G:=4) rfl Tryz.func77 rfl (by kernel_rfl) rfl rfl (fun neg ps h1 h2 h3 b1 o1 b3 o3 c w h4 h5 h6 h7 tm h8 h9 h10=>Tryz.str_tail neg ps h1 h2 h3 b1 o1 b3 o3 c w h4 h5 h6 h7 tm h8 h9 h10) e TO RL S
end Go.Proofs
namespace Go.Eng
open Go.RowKit
theorem tabIs_mem {P:Program} {W:World} {name:String} {k:IntKind} {zs:List Int} {g:Nat} {t e:TypeId} {n:Nat}
  (hg:P.globalNamed name=some g) (hty:(P.globals[g]?).map (·.type)=some t) (ht:P.underlying t=some (.array n e)) (he:P.underlying e=some (.int k)) (hce:P.cellsOf e=1) (hct:P.cellsOf t=n) :
  ∀{laid:List (String×DataW Unit)} {ps:List MemPlace},DataW.LaidVars P W laid ps→(name,Lib.tabData k zs)∈laid→Lib.TabIs P W name k zs
 | [],_,_,hm=>by cases hm
 | x::laid,ps,h,hm=>by
  obtain⟨g',t',cs,fuel,p,q,hg',ht',hvar,hd,h2,h3⟩:=h
  rcases List.mem_cons.1 hm with rfl|hm
  ·obtain rfl:=Option.some.inj (hg.symm.trans hg')
   obtain rfl:=Option.some.inj (hty.symm.trans ht')
   unfold Lib.TabIs
   rw[hvar,←Lib.cells_of_tab ht he hce hct hd]
  ·exact tabIs_mem hg hty ht he hce hct (by first|exact h2|exact h3|exact h3.1|exact h2.1) hm
def IsRow (k:IntKind) (w:World) (a:Option Addr) (len cap:Nat) (zs:List Int):Prop :=
 (a=none∧len=0∧cap=0∧zs=[]) ∨
 ∃x,a=some x∧len≤cap∧cap≤maxLen∧zs.length=cap∧(∀i,i<zs.length→w.cell? (x.add i)=some (.int k (zs.getD i 0)))∧∀n∈zs,(Lit.int k n).wf=true
def hpA (bs:List (List AV)):Hp:=⟨fun n=>if n≤4 then (globG n).map fun c=>⟨c,false,0⟩ else (bs[n-5]?).map fun c=>⟨c,false,0⟩,bs.length+5⟩
def locA (gs:Nat→Option At) (ats:List At):Loc:=fun n=>if n≤4 then gs n else ats[n-5]?
def InW (c:List AV) (a:At) (W:World):Prop :=
 a.b<W.heap.size∧a.w=false∧c.length≤a.n∧∀i (h:i<c.length),c[i].scal=true∧∃v,W.cell? ⟨a.b,a.o+i,none⟩=some v∧∀key l,Rel key l c[i] v
def GlobIn (key:Nat→Option FuncId) (W:World) (n:Nat) (a:At):Prop :=
 a.o=0∧∃c cs t fz,globG n=some c∧W.heap[a.b]?=some (.cells cs t fz)∧c.length≤a.n∧RelL key (fun _=>none) c cs.toList
theorem zhY:∀{n:Nat} {c:List AV},globG n=some c→c.all AV.scal=true
 | 0,c,h=>by cases h;rfl
 | 1,c,h=>by cases h;rfl
 | 2,c,h=>by cases h;rfl
 | 3,c,h=>by cases h;rfl
 | 4,c,h=>by cases h;rfl
 | n+5,c,h=>by cases h
theorem zg8:∀{n:Nat} {c:List AV},globG n=some c→(c.map cst0).all PV.scal=true
 | 0,c,h=>by cases h;decide
 | 1,c,h=>by cases h;decide
 | 2,c,h=>by cases h;decide
 | 3,c,h=>by cases h;rfl
 | 4,c,h=>by cases h;rfl
 | n+5,c,h=>by cases h
theorem zlF:∀{n:Nat} {c:List AV},globG n=some c→n≤4
 | 0,c,h=>by omega
 | 1,c,h=>by omega
 | 2,c,h=>by omega
 | 3,c,h=>by omega
 | 4,c,h=>by omega
 | n+5,c,h=>by cases h
theorem zs0 {P:Program} {key:Nat→Option FuncId} {F:Nat} {W:World} {gs:Nat→Option At} (hgs:∀n a,n≤4→gs n=some a→GlobIn key W n a)
  {bs:List (List AV)} {ats:List At} (hl:ats.length=bs.length) (hin:∀(n:Nat) c a,bs[n]?=some c→ats[n]?=some a→InW c a W):Sim key F (locA gs ats) (hpA bs) W:=by
 have hlt:∀n a,n≤4→gs n=some a→a.b<W.heap.size:=fun n a hn hg=>by
  obtain⟨_,c,cs,t,fz,_,h2,_⟩:=hgs n a hn hg
  rcases Nat.lt_or_ge a.b W.heap.size with q|q
  ·exact q
  ·rw[Array.getElem?_eq_none q] at h2;cases h2
 have hout:∀n,bs.length≤n→ats[n]?=none:=fun n hn=>List.getElem?_eq_none (by omega)
 have norw:∀n blk,(hpA bs).m n=some blk→blk.rw=false:=fun n blk e=>by
  simp only[hpA] at e
  split at e<;>(simp only[Option.map_eq_some_iff] at e;obtain⟨c,_,rfl⟩:=e;rfl)
 refine⟨fun n blk a e1 e2=>?_,fun n blk a n' blk' a' e1 e2 e3=>?_,fun n a e=>?_,fun n a e=>?_,fun n hn=>?_⟩
 ·by_cases hn:n≤4
  ·simp only[hpA,if_pos hn,Option.map_eq_some_iff] at e1
   simp only[locA,if_pos hn] at e2
   obtain⟨c,c1,rfl⟩:=e1
   obtain⟨g1,c',cs,t,fz,g2,g3,g4,g5⟩:=hgs n a hn e2
   obtain rfl:=Option.some.inj (c1.symm.trans g2)
   have hsz:c.length=cs.size:=by simpa using g5.1
   refine⟨hlt n a hn e2,g4,fun i hi=>?_,fun i hi=>?_,fun q=>(by cases q),fun _=>⟨rfl,g1,cs,t,fz,g3,hsz.symm⟩⟩
   ·have hi:i<c.length:=hi
    have hi':i<cs.toList.length:=by simp;omega
    refine⟨cs.toList[i],?_,(g5.2 i hi hi').mono fun n a q=>by cases q⟩
    have hb:W.heap[a.b]?=some (.cells cs t fz):=g3
    simp only[World.cell?,hb,g1,Nat.zero_add]
    rw[Array.getElem_toList,Array.getElem?_eq_getElem (by omega)];rfl
   ·have:=zhY c1
    rw[List.all_eq_true] at this
    exact this _ (List.getElem_mem _)
  ·simp only[hpA,if_neg hn,Option.map_eq_some_iff] at e1
   simp only[locA,if_neg hn] at e2
   obtain⟨c,c1,rfl⟩:=e1
   obtain⟨q1,q2,q3,q4⟩:=hin _ c a c1 e2
   exact⟨q1,q3,fun i hi=>by obtain⟨_,v,v1,v2⟩:=q4 i hi;exact⟨v,v1,v2 key _⟩,fun i hi=>(q4 i hi).1,fun q=>(by cases q),fun q=>by rw[q2] at q;cases q⟩
 ·rw[norw n blk e1] at e3;cases e3
 ·by_cases hn:n≤4
  ·simp only[locA,if_pos hn] at e
   exact hlt n a hn e
  ·simp only[locA,if_neg hn] at e
   have hb:n-5<bs.length:=by
    rcases Nat.lt_or_ge (n-5) bs.length with q|q
    ·exact q
    ·rw[hout _ q] at e;cases e
   exact(hin _ _ a (List.getElem?_eq_getElem hb) e).1
 ·left
  show n<bs.length+5
  by_cases hn:n≤4
  ·omega
  ·simp only[locA,if_neg hn] at e
   rcases Nat.lt_or_ge (n-5) bs.length with q|q
   ·omega
   ·rw[hout _ q] at e;cases e
 ·have hn:bs.length+5≤n:=hn
  simp only[hpA]
  rw[if_neg (by omega),List.getElem?_eq_none (by omega)];rfl
theorem PInv.startG {bs:List (List AV)} (w:(hpA bs).wf):PInv globG (fun _=>False) [] [] (hpA bs):=by
 refine⟨rfl,fun i j m q=>by simp at q,fun m q=>by simp at q,w,fun n m q=>by simp at q,fun n b m q=>by simp at q,fun m d=>d.elim,fun g l q=>?_⟩
 refine⟨⟨l,false,0⟩,?_,⟨rfl,zg8 q⟩,fun d=>?_⟩
 ·simp only[hpA,if_pos (zlF q),q,Option.map_some]
 ·rcases d with d|d
  ·exact d
  ·exact zig _ d
theorem glob_tab {P:Program} {key:Nat→Option FuncId} {W:World} {G:Nat} (hg:P.globalNamed "internal/strconv.uint64pow10" = some G) (ht:Lib.TabIs P W "internal/strconv.uint64pow10" .u64 Lib.pow10Tab):GlobIn key W 0 ⟨G,0,20,true⟩:=by
 have hb:∃cs t fz,W.heap[G]?=some (.cells cs t fz)∧cs=(Lib.pow10Tab.map fun z=>Value.int .u64 z).toArray:=by
  unfold Lib.TabIs World.var? at ht
  rw[hg] at ht
  simp only[Option.bind_some] at ht
  split at ht
  ·rename_i cs t fz hh
   cases ht
   exact⟨_,t,fz,hh,rfl⟩
  ·cases ht
 obtain⟨cs,t,fz,hh,rfl⟩:=hb
 refine⟨rfl,powT,_,t,fz,rfl,hh,Nat.le_refl _,by simp[Lib.pow10Tab,powT],fun i h1 h2=>?_⟩
 have hpl:powT.length=20:=rfl
 have hi':i<20:=by rw[←hpl];exact h1
 simp only[powT,List.getElem_map,List.getElem_range,Lib.pow10Tab]
 exact .i _ _
theorem law_calls {P:Program} {key:Nat→Option FuncId} {T:Tab} (K:ProgOk P key T E0.prog) (hTf:∀f k,T.fkey f=some k→key k=some f) {W:World} {gs:Nat→Option At} (hgs:∀n a,n≤4→gs n=some a→GlobIn key W n a)
  (hT:∀g n,T.gkey g=some n→n≤4∧∃m,gs n=some ⟨g,0,m,true⟩)
  {bs:List (List AV)} {ats:List At} (hl:ats.length=bs.length) (hin:∀(n:Nat) c a,bs[n]?=some c→ats[n]?=some a→InW c a W)
  {k g:Nat} (hk:key k=some g) (hpure:E0.pure k=true) {ps:List PV} (hfz:fzL (fz [] fzD) ps=some (ps,[])) (hpf:pf E0 k ps=some (.b true))
  {avs:List AV} {vs:Array Value} (hV:VL (hpA bs) (fun _=>False) [] ps avs) (hR:RelL key (locA gs ats) avs vs.toList) :
  Calls P g vs W fun e w'=>e=.returned (.bool true)∧Below W.heap.size W w':=by
 have hc:pcl E0 k ps []=some (.b true,roM [] []):=zgJ hpure hfz hpf
 obtain⟨kk,hev⟩:=zek hc
 have hw:(hpA bs).wf:=(zs0 (P:=P) (key:=key) (F:=0) hgs hl hin).wf
 have I:PInv globG (fun _=>False) [] [] (hpA bs):=PInv.startG hw
 obtain⟨a,h',r',q1,q2,q3,q4⟩:=zgP KE0 kk _ _ _ _ _ _ _ _ _ hev I (VL.dd hV)
 have ha:a=.b true:=by cases q4;rfl
 subst ha
 have S:=zs0 (P:=P) (key:=key) (F:=h'.next) hgs hl hin
 have TO:TabOk key T (locA gs ats):=by
  refine⟨fun f k e=>?_,fun g n e=>?_⟩
  ·exact hTf f k e
  ·obtain⟨h4,m,hm⟩:=hT g n e
   exact⟨m,by simp only[locA,if_pos h4];exact hm⟩
 refine(zce K kk h'.next k g avs vs _ h' _ _ W q1 hk (Nat.le_refl _) TO hR S).mono ?_
 rintro e w' ⟨l',val,rfl,E,S',rv⟩
 cases rv
 refine⟨rfl,E.os,E.tape,E.output,E.size,fun b hb=>E.frame b hb fun m blk a e1 e2=>?_⟩
 exfalso
 simp only[hpA] at e1
 split at e1<;>(simp only[Option.map_eq_some_iff] at e1;obtain⟨c,c1,rfl⟩:=e1;cases e2)
theorem arg_row {k:IntKind} {W:World} (h0:0<W.heap.size) {a:Option Addr} {len cap:Nat} {zs:List Int} (h:IsRow k W a len cap zs) (n:Nat):∃(c:List AV) (at_:At) (av:AV),InW c at_ W ∧
  (∀key (l:Loc),l n=some at_→Rel key l av (.slice a len cap))∧(∀(h:Hp) (D:Nat→Prop),h.m n=some ⟨c,false,0⟩→¬D n→V h D [] (.lst ((zs.take len).map fun z=>.i k z)) av):=by
 have nilIn:InW [] ⟨0,0,0,false⟩ W:=⟨h0,rfl,Nat.le_refl _,fun i hi=>by simp at hi⟩
 rcases h with⟨rfl,rfl,rfl,rfl⟩|⟨x,rfl,hl,hm,hz,hcell,hwz⟩
 ·exact⟨[],⟨0,0,0,false⟩,.sn,nilIn,fun key l _=>.sn,fun h D _ _=>.lsn⟩
 ·by_cases hlen:len=0
  ·subst hlen
   exact⟨[],⟨0,0,0,false⟩,.e0,nilIn,fun key l _=>.e0 _ _,fun h D _ _=>.le0⟩
  ·obtain⟨b,off,spot⟩:=x
   have hc:=hcell 0 (by omega)
   have hspot:spot=none:=by simpa [Addr.add] using World.cell?_spot hc
   subst hspot
   have hlt:b<W.heap.size:=by
    rcases Nat.lt_or_ge b W.heap.size with q|q
    ·exact q
    ·rw[zcd] at hc
     simp[World.cell?,Array.getElem?_eq_none q] at hc
   have hget:∀i (hi:i<((zs.take len).map fun z=>AV.i k z).length),((zs.take len).map fun z=>AV.i k z)[i]=.i k (zs.getD i 0):=fun i hi=>by
    have hi':i<zs.length:=by simp at hi;omega
    simp only[List.getElem_map,List.getElem_take,List.getD]
    rw[List.getElem?_eq_getElem hi'];rfl
   refine⟨(zs.take len).map fun z=>.i k z,⟨b,off,cap,false⟩,.sl n 0 len cap 1,⟨hlt,rfl,by simp;omega,fun i hi=>?_⟩,fun key l hn=>?_,fun h D hb hD=>?_⟩
   ·rw[hget i hi]
    have hi':i<zs.length:=by simp at hi;omega
    have:=hcell i hi'
    rw[zcd] at this
    exact⟨rfl,_,this,fun key l=>.i _ _⟩
   ·have:=Rel.sl (key:=key) (off:=0) (len:=len) (cap:=cap) (cap':=cap) (z:=1) hn (Nat.le_refl _) (by show 0+cap*1≤cap;omega) hl
    exact this
   ·have hfl:flat ((zs.take len).map fun z=>PV.i k z)=(zs.take len).map fun z=>PV.i k z:=by
     generalize zs.take len=ys
     induction ys with
     | nil=>rfl
     | cons y ys ih=>rw[List.map_cons];show [PV.i k y]++flat _=_;rw[ih];rfl
    have hll:((zs.take len).map fun z=>PV.i k z).length=len:=by simp;omega
    have:=V.lst (h:=h) (D:=D) (r:=[]) (xs:=(zs.take len).map fun z=>PV.i k z) (m:=n) (off:=0) (cap:=cap) (z:=1) (fun i=>.i k (zs.getD i 0)) hb hD (by rw[hfl,List.all_eq_true];intro x hx;obtain⟨y,_,rfl⟩:=List.mem_map.1 hx;rfl) (by decide) (fun x hx=>by
     obtain⟨y,_,rfl⟩:=List.mem_map.1 hx;rfl) (by rw[hll];exact hl) (fun i hi=>by
     rw[hfl] at hi
     have hi2:i<((zs.take len).map fun z=>AV.i k z).length:=by simpa using hi
     rw[Nat.zero_add,List.getElem?_eq_getElem hi2,hget i hi2]) (fun i hi=>by
     have hi1:i<((zs.take len).map fun z=>PV.i k z).length:=by rw[hfl] at hi;exact hi
     have e:(flat ((zs.take len).map fun z=>PV.i k z))[i]=.i k (zs.getD i 0):=by
      simp only[hfl,List.getElem_map,List.getElem_take,List.getD]
      rw[List.getElem?_eq_getElem (by simp at hi1;omega)];rfl
     rw[e]
     exact .i _ _)
    rw[hll] at this
    exact this
theorem row_heap {P:Program} {W:World} {G:Nat} (hg:P.globalNamed "internal/strconv.uint64pow10" = some G) (ht:Lib.TabIs P W "internal/strconv.uint64pow10" .u64 Lib.pow10Tab):0<W.heap.size:=by
 unfold Lib.TabIs World.var? at ht
 rw[hg] at ht
 simp only[Option.bind_some] at ht
 split at ht
 ·rename_i cs t fz hh
  rcases Nat.eq_zero_or_pos W.heap.size with q|q
  ·rw[Array.getElem?_eq_none (by omega)] at hh;cases hh
  ·exact q
 ·cases ht
theorem ints_row {W:World} {a:Option Addr} {len cap:Nat} {zs:List Int} (h:IsRow .i64 W a len cap zs):Ints (zs.take len):=by
 rcases h with⟨rfl,rfl,rfl,rfl⟩|⟨x,rfl,hl,hm,hz,hcell,hwz⟩
 ·exact⟨by simp,fun n hn=>by simp at hn⟩
 ·refine⟨?_,fun n hn=>?_⟩
  ·have:maxLen≤9223372036854775807:=by decide
   simp;omega
  ·have:=bounds_i64 (hwz n (List.mem_of_mem_take hn))
   exact this
end Go.Eng
namespace Go.Eng
theorem ziK {n K:Nat} (hn:n=1229) (hK:K=16384):10000^n≤2^K:=by
 obtain⟨m,hm⟩:∃m,m=83:=⟨_,rfl⟩
 have e:(10000:Nat)^n=(10^59)^m*10^19:=by
  rw[show (10000:Nat)=10^4 from rfl,←Nat.pow_mul,←Nat.pow_mul,←Nat.pow_add]
  congr 1;omega
 have h1:(10:Nat)^59≤2^196:=by decide
 have h2:(10:Nat)^19≤2^64:=by decide
 have h3:((10:Nat)^59)^m≤(2^196)^m:=Nat.pow_le_pow_left h1 m
 have h4:(2^196)^m*2^64=2^(196*m+64):=by rw[←Nat.pow_mul,←Nat.pow_add]
 rw[e]
 refine Nat.le_trans (Nat.mul_le_mul h3 h2) ?_
 rw[h4]
 exact Nat.pow_le_pow_right (by decide) (by omega)
def inR (v:Nat):Prop:=v<2^16384
theorem zjx (v:Nat):(tlen v<1230∨v<2^16384)↔inR v:=by
 obtain⟨n,hn⟩:∃n,n=1229:=⟨_,rfl⟩
 have hb:=ziK (K:=16384) hn rfl
 unfold inR
 generalize (2:Nat)^16384=q at *
 constructor
 ·rintro (h|h)
  ·have h2:v<10000^n:=zbb.1 (by omega)
   exact Nat.lt_of_lt_of_le h2 hb
  ·exact h
 ·exact .inr
theorem zb6 (v:Nat):wlen v≤512↔inR v:=by
 obtain⟨n,hn⟩:∃n,n=512:=⟨_,rfl⟩
 rw[←hn,zaX]
 unfold inR
 have:(4294967296:Nat)^n=2^16384:=by
  rw[show (4294967296:Nat)=2^32 from rfl,←Nat.pow_mul]
  congr 1;omega
 rw[this]
end Go.Eng
namespace Go.Eng
end Go.Eng
namespace Go.Eng
noncomputable instance inRdec (v:Nat):Decidable (inR v):=Classical.propDecidable _
end Go.Eng
namespace Go.Eng
end Go.Eng
namespace Go.Eng
theorem zi6 {n K:Nat} (hn:n=177) (hK:K=16384):2^K≤10^(28*n):=by
 have e1:(2:Nat)^K≤(2^93)^n:=by
  rw[←Nat.pow_mul 2]
  exact Nat.pow_le_pow_right (by decide) (by omega)
 have e2:((2:Nat)^93)^n≤(10^28)^n:=Nat.pow_le_pow_left (by decide) n
 rw[←Nat.pow_mul 10] at e2
 exact Nat.le_trans e1 e2
theorem zjC {v:Nat} (h:inR v):dlen v≤4956:=by
 obtain⟨n,hn⟩:∃n,n=177:=⟨_,rfl⟩
 have e:=zi6 (K:=16384) hn rfl
 have h:v<2^16384:=h
 have:=za4.2 (Nat.lt_of_lt_of_le h e)
 omega
theorem zn5 (x:WI):pf E0 33 [wiP x]=some (.s (decI x.v)):=by
 refine zms ?_ rfl
 have hw:∀(l:List Nat),Ok32 l→wordsP (l.map fun n=>(PV.i .u32 ((n:Nat):Int)))=some l:=fun l=>by
  induction l with
  | nil=>intro _;rfl
  | cons n l ih =>
   intro h
   have h1:=h n (List.mem_cons_self ..)
   rw[List.map_cons]
   unfold wordsP
   rw[if_pos ⟨by omega,by omega⟩,ih fun x hx=>h x (List.mem_cons_of_mem _ hx)]
   simp
 have hD:D x.v.natAbs=.lst ((dig x.v.natAbs).map fun n=>(PV.i .u32 ((n:Nat):Int))):=(zrR _ _).symm
 have hg:(dig x.v.natAbs).getLast?≠some 0:=fun q=>by
  by_cases h:x.v.natAbs=0
  ·rw[h] at q;cases q
  ·have h1:=za6 h
   have h2:(dig x.v.natAbs).getLast?=some (dgt x.v.natAbs (wlen x.v.natAbs-1)):=by
    rw[List.getLast?_eq_getElem?]
    unfold dig dw
    rw[za8,za1 (by omega)]
   rw[h2] at q
   have h3:=Option.some.inj q
   rw[zan] at h3
   have h4:=ze2 h
   have h5:x.v.natAbs/4294967296^(wlen x.v.natAbs-1)<4294967296:=by
    have:=zam x.v.natAbs
    rw[show wlen x.v.natAbs=wlen x.v.natAbs-1+1 by omega,Nat.pow_succ] at this
    exact Nat.div_lt_of_lt_mul this
   have h6:=Nat.div_pos h4 (zbJ _)
   rw[Nat.mod_eq_of_lt h5] at h3
   omega
 have hx:=x.lim
 rw[zdT,hD]
 simp only[orcP,txtP,if_true,hw _ (znK _),Option.bind_some]
 unfold wtx
 have hnz:decide (x.v<0)=true→dig x.v.natAbs≠[]:=fun h=>by
  have h1:x.v<0:=by simpa using h
  intro q
  have h2:=zd6 x.v.natAbs
  rw[q] at h2
  have:=za6 (v:=x.v.natAbs) (by omega)
  simp at h2;omega
 rw[if_pos ⟨by rw[zd6];exact hx,hg,hnz⟩,zmT]
 ·have e:(if decide (x.v<0)=true then-((x.v.natAbs:Nat):Int) else ((x.v.natAbs:Nat):Int))=x.v:=by
   by_cases h:x.v<0
   ·rw[if_pos (by simpa using h)];omega
   ·rw[if_neg (by simpa using h)];omega
  rw[e];rfl
end Go.Eng
namespace Go.Eng
theorem zjn {v n:Nat} (h1:10^n≤v) (h2:v<10^(n+1)):dec v=dtx (n+1) v:=by
 have h0:v≠0:=by have:=Nat.pow_pos (n:=n) (by decide:0<10);omega
 have:dlen v=n+1:=by
  have a:=za4.2 h2
  have b:¬dlen v≤n:=fun q=>by have:=za4.1 q;omega
  omega
 rw[zeu h0,this]
theorem zhR {n:Int} (h:Fits64 n):∃x:WI,x.v=n∧pf E0 34 [.i .i64 n]=some (wiP x):=⟨wiOf n h,rfl,zef h⟩
end Go.Eng
namespace Go.Eng
def isPP:PV→Bool
 | .p _ _=>true
 | _=>false
@[go_sem] theorem zsa (n o:Nat):isPP (.p n o)=true:=_root_.id rfl
def slotIn (E:PEnv) (ops:List XOper) (L:List Nat) (c:Nat×Nat):Bool :=
 match ops[c.1]?,ops[c.2]? with
 | some a,some b =>
  match a.op with
  | .load _ _ (.t s)=>L.contains s&&calmOp E b.op&&(ops.all fun o=>o.dst != some s)
  | _=>false
 | _,_=>false
theorem zak {E:PEnv} {F:PFin} {ops:List XOper} {chk:List (Nat×Nat)} {ks:List KI} {fr:PFr} {M:PM} (L:List Nat) (hL:chk.all (fun c=>calmC E ops c || slotIn E ops L c)=true) (hp:L.all (fun s=>isPP (fr s))=true) (w:WL E F ops ks fr M) :
  WK E F (.drw ops chk) ks fr M:=by
 refine zb8 (fun fr2 Ms hT=>?_) w
 rw[List.all_eq_true] at hL hp ⊢
 rintro⟨i,j⟩ hc
 have h1:=hL _ hc
 simp only[Bool.or_eq_true] at h1
 rcases h1 with h1|h1
 ·exact zbB hT h1
 ·unfold slotIn at h1
  split at h1
  ·rename_i a b ha hb
   split at h1
   ·rename_i z k s hop
    simp only[Bool.and_eq_true] at h1
    obtain⟨⟨c1,c2⟩,c3⟩:=h1
    have hs:=hp s (List.contains_iff_mem.1 c1)
    cases hf:fr s with
    | p n o=>exact zcQ hT ha hb hop c2 c3 hf
    | _=>rw[hf] at hs;simp[isPP] at hs
   ·cases h1
  ·cases h1
attribute [go_sem] List.all_cons List.all_nil
def slotIn2 (E:PEnv) (ops:List XOper) (L:List Nat) (c:Nat×Nat):Bool :=
 match ops[c.1]?,ops[c.2]? with
 | some a,some b =>
  match a.op with
  | .load _ _ (.t s)=>L.contains s&&calmOp E b.op
  | _=>false
 | _,_=>false
theorem zah {E:PEnv} {F:PFin} {ops:List XOper} {chk:List (Nat×Nat)} {ks:List KI} {fr:PFr} {M:PM} (L:List Nat) (hL:chk.all (fun c=>calmC E ops c || slotIn2 E ops L c)=true)
  (hr:WL E ⟨(0::0::L).map XR.tmp,fun w _=>∃l,w=.tu l∧(l.drop 2).all isPP=true⟩ ops [] fr M) (w:WL E F ops ks fr M):WK E F (.drw ops chk) ks fr M:=by
 refine zb8 (fun fr2 Ms hT=>?_) w
 have hp:L.all (fun s=>isPP (fr2 s))=true:=by
  obtain⟨lf,q,fr3,M3,vs,e,h1,h2,l,h3,h4⟩:=hr
  simp only[Option.bind_eq_some_iff,unw] at e
  obtain⟨⟨fr4,M4⟩,e1,e2⟩:=e
  simp only[Option.some.injEq,Prod.mk.injEq] at e2
  obtain⟨_,e3,e4⟩:=e2
  rw[←e3,←e4] at h2
  obtain⟨Ms',g1,g2⟩:=zb4 e1
  rw[g1] at hT
  cases hT
  have hres:∀(f:PFr) (N:PM) (l:List Nat),pRes f N (l.map XR.tmp)=some (l.map f):=fun f N l=>by
   induction l with
   | nil=>rfl
   | cons a l ih=>simp only[List.map_cons,pRes,pResOne,ih]
  rw[hres] at h2
  cases h2
  simp only[List.map_cons,packP] at h3
  cases h3
  simpa [List.all_map] using h4
 rw[List.all_eq_true] at hL hp ⊢
 rintro⟨i,j⟩ hc
 have h1:=hL _ hc
 simp only[Bool.or_eq_true] at h1
 rcases h1 with h1|h1
 ·exact zbB hT h1
 ·unfold slotIn2 at h1
  split at h1
  ·rename_i a b ha hb
   split at h1
   ·rename_i z k s hop
    simp only[Bool.and_eq_true] at h1
    obtain⟨c1,c2⟩:=h1
    have hs:=hp s (List.contains_iff_mem.1 c1)
    cases hf:fr2 s with
    | p n o =>
     obtain⟨fri,A,B,q1,q2,q3,q4⟩:=zaO hT ha
     obtain⟨frj,C,D,p1,p2,p3,p4⟩:=zaO hT hb
     have p2':Ms[(i,j).2+1]?=some D:=p2
     have q2':Ms[(i,j).1+1]?=some B:=q2
     simp only[chkP,ha,q1,q2,p1,p2]
     rw[if_neg (by rw[hop];simp[XO.cls])]
     rw[hop]
     show chkV ops j (.t s) C D (fr2 s)=true
     rw[hf]
     show verP (some n) C D=true
     rcases p3 with⟨_,v,p3⟩|⟨_,p3⟩
     ·cases hopb:b.op with
      | call f l =>
       rw[hopb] at p3 c2
       obtain⟨ns,rfl⟩:=zdf c2 p3
       exact zcw ns C _
      | _=>rw[hopb] at c2;simp[calmOp] at c2
     ·rw[p3];simp[verP]
    | _=>rw[hf] at hs;simp[isPP] at hs
   ·cases h1
  ·cases h1
theorem zaa {E:PEnv} {F:PFin} {a b:XC} (hab:a=b) {ks:List KI} {fr:PFr} {M:PM} (w:WK E F b (.loop a::ks) fr M):WK E F (.loop a) ks fr M:=by
 rw[←hab] at w;exact zcK w
def fillC (z:List PV) (off n:Nat) (cs:List PV):Option (List PV):=if cs.length=n∧off+n≤z.length∧cs.all PV.scal=true then some (psplice z off cs) else none
theorem zao {fr:PFr} (G:Nat→Option (List AV)) (z:List PV) (off n:Nat) (x:X) (ps:List (Nat×Nat×X)):fillP G fr z ((off,(n,x))::ps)=fillB fr G ps (fillC z off n (x.pv G fr).cells):=by
 simp only[fillP]
 unfold fillC
 split<;>rfl
theorem zae (z:List PV) (off n:Nat) (cs:List PV):fillC z off n cs=if cs.length=n∧off+n≤z.length∧cs.all PV.scal=true then some (psplice z off cs) else none:=rfl
end Go.Eng
namespace Go.Eng
theorem zdn {z:Int} (h:tlen z.natAbs<1230):inR z.natAbs:=(zjx _).1 (.inl h)
theorem zfs (a b:Int):tlen (a-b).natAbs≤max (tlen a.natAbs) (tlen b.natAbs)+1:=by
 have:=zaV a (-b)
 rwa [Int.natAbs_neg] at this
end Go.Eng
namespace Go.Eng
noncomputable def cW (w:Nat→WI):List PV:=[.b (decide ((w 0).v<0)),D (w 0).v.natAbs,.b (decide ((w 1).v<0)),D (w 1).v.natAbs,.b (decide ((w 2).v<0)),D (w 2).v.natAbs,.b (decide ((w 3).v<0)),D (w 3).v.natAbs,.b (decide ((w 4).v<0)),D (w 4).v.natAbs,.b (decide ((w 5).v<0)),D (w 5).v.natAbs,.b (decide ((w 6).v<0)),D (w 6).v.natAbs,.b (decide ((w 7).v<0)),D (w 7).v.natAbs,.b (decide ((w 8).v<0)),D (w 8).v.natAbs]
noncomputable def mW (w:Nat→WI):PV:=.ag (cW w)
def cI (p:Nat→Int):List PV:=[.i .i64 (p 0),.i .i64 (p 1),.i .i64 (p 2),.i .i64 (p 3),.i .i64 (p 4),.i .i64 (p 5),.i .i64 (p 6),.i .i64 (p 7),.i .i64 (p 8)]
def pI (p:Nat→Int):PV:=.ag (cI p)
theorem zad (w:Nat→WI):cW w=[.b (decide ((w 0).v<0)),D (w 0).v.natAbs,.b (decide ((w 1).v<0)),D (w 1).v.natAbs,.b (decide ((w 2).v<0)),D (w 2).v.natAbs,.b (decide ((w 3).v<0)),D (w 3).v.natAbs,.b (decide ((w 4).v<0)),D (w 4).v.natAbs,.b (decide ((w 5).v<0)),D (w 5).v.natAbs,.b (decide ((w 6).v<0)),D (w 6).v.natAbs,.b (decide ((w 7).v<0)),D (w 7).v.natAbs,.b (decide ((w 8).v<0)),D (w 8).v.natAbs]:=_root_.id rfl
theorem zay (p:Nat→Int):cI p=[.i .i64 (p 0),.i .i64 (p 1),.i .i64 (p 2),.i .i64 (p 3),.i .i64 (p 4),.i .i64 (p 5),.i .i64 (p 6),.i .i64 (p 7),.i .i64 (p 8)]:=_root_.id rfl
@[go_sem] theorem ztD (M:PM) (d:Nat) (w:Nat→WI):fz M (d+1+1) (mW w)=some (mW w,[]):=_root_.id rfl
@[go_sem] theorem zoZ (w:Nat→WI):(mW w).cells=cW w:=_root_.id rfl
@[go_sem] theorem ztH (M:PM) (d:Nat) (p:Nat→Int):fz M (d+1+1) (pI p)=some (pI p,[]):=_root_.id rfl
@[go_sem] theorem zo2 (p:Nat→Int):(pI p).cells=cI p:=_root_.id rfl
@[go_sem] theorem zp9 (w:Nat→WI):PV.ag (cW w)=mW w:=_root_.id rfl
@[go_sem] theorem zqc (p:Nat→Int):PV.ag (cI p)=pI p:=_root_.id rfl
noncomputable def zW:Nat→WI:=fun _=>wi0
def zI:Nat→Int:=fun _=>0
noncomputable def cP (n:Nat) (w:Nat→WI):List PV:=[if 0<n then .b (decide ((w 0).v<0)) else .b false,if 0<n then D (w 0).v.natAbs else .nl,if 1<n then .b (decide ((w 1).v<0)) else .b false,if 1<n then D (w 1).v.natAbs else .nl,if 2<n then .b (decide ((w 2).v<0)) else .b false,if 2<n then D (w 2).v.natAbs else .nl,if 3<n then .b (decide ((w 3).v<0)) else .b false,if 3<n then D (w 3).v.natAbs else .nl,if 4<n then .b (decide ((w 4).v<0)) else .b false,if 4<n then D (w 4).v.natAbs else .nl,if 5<n then .b (decide ((w 5).v<0)) else .b false,if 5<n then D (w 5).v.natAbs else .nl,if 6<n then .b (decide ((w 6).v<0)) else .b false,if 6<n then D (w 6).v.natAbs else .nl,if 7<n then .b (decide ((w 7).v<0)) else .b false,if 7<n then D (w 7).v.natAbs else .nl,if 8<n then .b (decide ((w 8).v<0)) else .b false,if 8<n then D (w 8).v.natAbs else .nl]
theorem zcP (n:Nat) (w:Nat→WI):cP n w=[if 0<n then .b (decide ((w 0).v<0)) else .b false,if 0<n then D (w 0).v.natAbs else .nl,if 1<n then .b (decide ((w 1).v<0)) else .b false,if 1<n then D (w 1).v.natAbs else .nl,if 2<n then .b (decide ((w 2).v<0)) else .b false,if 2<n then D (w 2).v.natAbs else .nl,if 3<n then .b (decide ((w 3).v<0)) else .b false,if 3<n then D (w 3).v.natAbs else .nl,if 4<n then .b (decide ((w 4).v<0)) else .b false,if 4<n then D (w 4).v.natAbs else .nl,if 5<n then .b (decide ((w 5).v<0)) else .b false,if 5<n then D (w 5).v.natAbs else .nl,if 6<n then .b (decide ((w 6).v<0)) else .b false,if 6<n then D (w 6).v.natAbs else .nl,if 7<n then .b (decide ((w 7).v<0)) else .b false,if 7<n then D (w 7).v.natAbs else .nl,if 8<n then .b (decide ((w 8).v<0)) else .b false,if 8<n then D (w 8).v.natAbs else .nl]:=_root_.id rfl
theorem cP9 (w:Nat→WI):cP 9 w=cW w:=rfl
def cQ (n:Nat) (p:Nat→Int):List PV:=[.i .i64 (if 0<n then p 0 else 0),.i .i64 (if 1<n then p 1 else 0),.i .i64 (if 2<n then p 2 else 0),.i .i64 (if 3<n then p 3 else 0),.i .i64 (if 4<n then p 4 else 0),.i .i64 (if 5<n then p 5 else 0),.i .i64 (if 6<n then p 6 else 0),.i .i64 (if 7<n then p 7 else 0),.i .i64 (if 8<n then p 8 else 0)]
theorem cQ9 (p:Nat→Int):cQ 9 p=cI p:=rfl
theorem zdc {i:Nat} (h:i<9):i=0∨i=1∨i=2∨i=3∨i=4∨i=5∨i=6∨i=7∨i=8:=by omega
theorem zdi {i:Nat} (h:i<3):i=0∨i=1∨i=2:=by omega
@[go_sem] theorem ztY (p:Nat→Int):(cI p).all PV.scal=true:=_root_.id rfl
@[go_sem] theorem zt0 (w:Nat→WI):(cW w).all PV.scal=true:=_root_.id rfl
@[go_sem] theorem ztM (p:Nat→Int):(cI p).length=9:=_root_.id rfl
@[go_sem] theorem ztS (w:Nat→WI):(cW w).length=18:=_root_.id rfl
@[go_sem] theorem zt8 (p:Nat→Int):(cI p).take 9=cI p:=_root_.id rfl
@[go_sem] theorem zua (w:Nat→WI):(cW w).take 18=cW w:=_root_.id rfl
@[go_sem] theorem ztO (n:Nat) (w:Nat→WI):(cP n w).length=18:=_root_.id rfl
@[go_sem] theorem ztP (n:Nat) (p:Nat→Int):(cQ n p).length=9:=_root_.id rfl
@[go_sem] theorem zt3 (n:Nat) (w u:Nat→WI):psplice (cP n w) 0 (cW u)=cW u:=_root_.id rfl
@[go_sem] theorem zt4 (n:Nat) (w u:Nat→Int):psplice (cQ n w) 0 (cI u)=cI u:=_root_.id rfl
noncomputable def ofW (p:Nat→Int):Nat→WI:=fun e=>clip (p e)
theorem zlQ {p:Nat→Int} {e:Nat} (h:Fits64 (p e)):(ofW p e).v=p e:=zdB (zf1 h)
theorem zb5 {n:Int} (h:Fits64 n):pf E0 34 [.i .i64 n]=some (wiP (clip n)):=by
 rw[zef h]
 congr 2
 exact WI.ext' (by rw[zdB (zf1 h)];rfl)
set_option maxHeartbeats 2000000 in
theorem zmh {p:Nat→Int} (hp:∀e,Fits64 (p e)):pf E0 307 [pI p]=some (mW (ofW p)):=by
 refine zaf (xf:=zwq) rfl (by simp[zwq]) ?_
 simp only[zwq]
 simp(disch:=omega)only[go_sem,seval,wqq]
 refine zas zwX.eq_1 (fun(i:Nat) fr M=>i≤9∧fr 2=.p 1 0∧fr 3=.p 2 0∧fr 7=pI p∧fr 8=(PV.i .i64 ((i:Nat):Int))∧∃b0 b1 v,M=[b0,some ⟨cP 0 zW,true,b1⟩,some ⟨cP i (ofW p),true,v⟩]) (fun i=>9-i) ?_ 0 ⟨by omega,by simp only[go_sem,seval],by simp only[go_sem,seval],by simp only[go_sem,seval],by simp only[go_sem,seval],_,_,_,rfl⟩
 rintro i fr M ⟨hi,f2,f3,f7,f8,b0,b1,v,rfl⟩ ih
 rcases Nat.lt_or_ge i 9 with h9|h9
 ·have q1:((i:Int)<9)=True:=eq_true (by omega)
  obtain rfl|rfl|rfl|rfl|rfl|rfl|rfl|rfl|rfl:=zdc h9
  ·have fr0:=zb5 (hp 0)
   simp(disch:=omega)only[go_sem,seval,wqq,f2,f3,f7,f8,pI,zay,zcP,fr0]
   exact ih 1 _ _ (by omega) ⟨by omega,by simp only[go_sem,seval,f2],by simp only[go_sem,seval,f3],by simp only[go_sem,seval,f7],by simp only[go_sem,seval],_,_,_,rfl⟩
  ·have fr0:=zb5 (hp 1)
   simp(disch:=omega)only[go_sem,seval,wqq,f2,f3,f7,f8,pI,zay,zcP,fr0]
   exact ih 2 _ _ (by omega) ⟨by omega,by simp only[go_sem,seval,f2],by simp only[go_sem,seval,f3],by simp only[go_sem,seval,f7],by simp only[go_sem,seval],_,_,_,rfl⟩
  ·have fr0:=zb5 (hp 2)
   simp(disch:=omega)only[go_sem,seval,wqq,f2,f3,f7,f8,pI,zay,zcP,fr0]
   exact ih 3 _ _ (by omega) ⟨by omega,by simp only[go_sem,seval,f2],by simp only[go_sem,seval,f3],by simp only[go_sem,seval,f7],by simp only[go_sem,seval],_,_,_,rfl⟩
  ·have fr0:=zb5 (hp 3)
   simp(disch:=omega)only[go_sem,seval,wqq,f2,f3,f7,f8,pI,zay,zcP,fr0]
   exact ih 4 _ _ (by omega) ⟨by omega,by simp only[go_sem,seval,f2],by simp only[go_sem,seval,f3],by simp only[go_sem,seval,f7],by simp only[go_sem,seval],_,_,_,rfl⟩
  ·have fr0:=zb5 (hp 4)
   simp(disch:=omega)only[go_sem,seval,wqq,f2,f3,f7,f8,pI,zay,zcP,fr0]
   exact ih 5 _ _ (by omega) ⟨by omega,by simp only[go_sem,seval,f2],by simp only[go_sem,seval,f3],by simp only[go_sem,seval,f7],by simp only[go_sem,seval],_,_,_,rfl⟩
  ·have fr0:=zb5 (hp 5)
   simp(disch:=omega)only[go_sem,seval,wqq,f2,f3,f7,f8,pI,zay,zcP,fr0]
   exact ih 6 _ _ (by omega) ⟨by omega,by simp only[go_sem,seval,f2],by simp only[go_sem,seval,f3],by simp only[go_sem,seval,f7],by simp only[go_sem,seval],_,_,_,rfl⟩
  ·have fr0:=zb5 (hp 6)
   simp(disch:=omega)only[go_sem,seval,wqq,f2,f3,f7,f8,pI,zay,zcP,fr0]
   exact ih 7 _ _ (by omega) ⟨by omega,by simp only[go_sem,seval,f2],by simp only[go_sem,seval,f3],by simp only[go_sem,seval,f7],by simp only[go_sem,seval],_,_,_,rfl⟩
  ·have fr0:=zb5 (hp 7)
   simp(disch:=omega)only[go_sem,seval,wqq,f2,f3,f7,f8,pI,zay,zcP,fr0]
   exact ih 8 _ _ (by omega) ⟨by omega,by simp only[go_sem,seval,f2],by simp only[go_sem,seval,f3],by simp only[go_sem,seval,f7],by simp only[go_sem,seval],_,_,_,rfl⟩
  ·have fr0:=zb5 (hp 8)
   simp(disch:=omega)only[go_sem,seval,wqq,f2,f3,f7,f8,pI,zay,zcP,fr0]
   exact ih 9 _ _ (by omega) ⟨by omega,by simp only[go_sem,seval,f2],by simp only[go_sem,seval,f3],by simp only[go_sem,seval,f7],by simp only[go_sem,seval],_,_,_,rfl⟩
 ·obtain rfl:i=9:=by omega
  simp(disch:=omega)only[go_sem,seval,wqq,f2,f3,f7,f8,cP9]
end Go.Eng
namespace Go.Eng
def gI (p q:Int):Int:=((Nat.gcd p.natAbs q.natAbs:Nat):Int)
def lowP (p q:Int):Int:=(if q<0 then-p else p)/gI p q
def lowQ (p q:Int):Int:=(if q<0 then-q else q)/gI p q
theorem zg7 {p q:Int} (h:q≠0):gI p q≠0:=by
 unfold gI
 intro e
 have:Nat.gcd p.natAbs q.natAbs=0:=by omega
 have:=Nat.eq_zero_of_gcd_eq_zero_right this
 omega
theorem zdG {p q:Int} (h:q≠0):0<gI p q:=by
 have:=zg7 (p:=p) h
 unfold gI at *
 omega
theorem zcg (p q:Int):gI p q∣p:=Int.ofNat_dvd_left.2 (Nat.gcd_dvd_left _ _)
theorem zcE (p q:Int):gI p q∣q:=Int.ofNat_dvd_left.2 (Nat.gcd_dvd_right _ _)
theorem zny (p q:Int):gI (-p) (-q)=gI p q:=by unfold gI;rw[Int.natAbs_neg,Int.natAbs_neg]
theorem zdJ {p q:Int} (h:q≠0):lowP p q*gI p q=(if q<0 then-p else p)∧lowQ p q*gI p q=(if q<0 then-q else q):=by
 unfold lowP lowQ
 refine⟨Int.ediv_mul_cancel ?_,Int.ediv_mul_cancel ?_⟩
 ·split
  ·exact Int.dvd_neg.2 (zcg p q)
  ·exact zcg p q
 ·split
  ·exact Int.dvd_neg.2 (zcE p q)
  ·exact zcE p q
theorem zdK {p q:Int} (h:q≠0):0<lowQ p q:=by
 have h1:=(zdJ (p:=p) h).2
 have h2:=zdG (p:=p) h
 have h3:0<lowQ p q*gI p q:=by rw[h1];split<;>omega
 exact Int.pos_of_mul_pos_left h3 h2
theorem zch {p q:Int} (h:q≠0):lowP p q*q=p*lowQ p q:=by
 obtain⟨h1,h2⟩:=zdJ (p:=p) h
 have h3:=zg7 (p:=p) h
 apply Int.eq_of_mul_eq_mul_right h3
 rw[Int.mul_right_comm,h1,Int.mul_assoc,h2]
 split<;>grind
theorem zeE {p q:Int} (h:q≠0):Nat.gcd (lowP p q).natAbs (lowQ p q).natAbs=1:=by
 obtain⟨h1,h2⟩:=zdJ (p:=p) h
 have h3:=zdG (p:=p) h
 have e1:(lowP p q).natAbs*(gI p q).natAbs=p.natAbs:=by rw[←Int.natAbs_mul,h1];split<;>omega
 have e2:(lowQ p q).natAbs*(gI p q).natAbs=q.natAbs:=by rw[←Int.natAbs_mul,h2];split<;>omega
 have e3:(gI p q).natAbs=Nat.gcd p.natAbs q.natAbs:=Int.natAbs_natCast _
 have e4:=Nat.gcd_mul_right (lowP p q).natAbs (gI p q).natAbs (lowQ p q).natAbs
 rw[e1,e2,←e3] at e4
 have:0<(gI p q).natAbs:=by omega
 exact Nat.eq_of_mul_eq_mul_right this (by rw[Nat.one_mul];exact e4.symm)
theorem zcV {p q r s:Int} (hq:0<q) (hs:0<s) (c1:Nat.gcd p.natAbs q.natAbs=1) (c2:Nat.gcd r.natAbs s.natAbs=1) (h:p*s=r*q):p=r∧q=s:=by
 have n1:p.natAbs*s.natAbs=r.natAbs*q.natAbs:=by rw[←Int.natAbs_mul,←Int.natAbs_mul,h]
 have d1:q.natAbs∣s.natAbs:=by
  have:q.natAbs∣p.natAbs*s.natAbs:=⟨r.natAbs,by rw[n1,Nat.mul_comm]⟩
  exact(Nat.Coprime.dvd_of_dvd_mul_left (by rw[Nat.coprime_comm];exact c1) this)
 have d2:s.natAbs∣q.natAbs:=by
  have:s.natAbs∣r.natAbs*q.natAbs:=⟨p.natAbs,by rw[←n1,Nat.mul_comm]⟩
  exact(Nat.Coprime.dvd_of_dvd_mul_left (by rw[Nat.coprime_comm];exact c2) this)
 have e:q.natAbs=s.natAbs:=Nat.dvd_antisymm d1 d2
 have e2:q=s:=by omega
 subst e2
 exact⟨Int.eq_of_mul_eq_mul_right (by omega) h,rfl⟩
theorem zlL {p q r s:Int} (hq:q≠0) (hs:s≠0) (h:p*s=r*q):lowP p q=lowP r s∧lowQ p q=lowQ r s:=by
 refine zcV (zdK hq) (zdK hs) (zeE hq) (zeE hs) ?_
 have a:=zch (p:=p) hq
 have b:=zch (p:=r) hs
 apply Int.eq_of_mul_eq_mul_right (a:=q*s) (Int.mul_ne_zero hq hs)
 calc lowP p q*lowQ r s*(q*s)=(lowP p q*q)*(lowQ r s*s):=by grind
  _=p*lowQ p q*(lowQ r s*s):=by rw[a]
  _=p*s*(lowQ p q*lowQ r s):=by grind
  _=r*q*(lowQ p q*lowQ r s):=by rw[h]
  _=r*lowQ r s*(lowQ p q*q):=by grind
  _=lowP r s*s*(lowQ p q*q):=by rw[b]
  _=lowP r s*lowQ p q*(q*s):=by grind
theorem zeF {p q:Int} (hq:0<q) (c:Nat.gcd p.natAbs q.natAbs=1):lowP p q=p∧lowQ p q=q:=by
 unfold lowP lowQ gI
 rw[c,if_neg (by omega),if_neg (by omega)]
 exact⟨Int.ediv_one _,Int.ediv_one _⟩
theorem zfP {p q:Int} (h:q≠0):(lowP p q).natAbs≤p.natAbs:=by
 have h1:=(zdJ (p:=p) h).1
 have h3:=zdG (p:=p) h
 have e1:(lowP p q).natAbs*(gI p q).natAbs=p.natAbs:=by rw[←Int.natAbs_mul,h1];split<;>omega
 rw[←e1]
 exact Nat.le_mul_of_pos_right _ (by omega)
theorem zfQ {p q:Int} (h:q≠0):(lowQ p q).natAbs≤q.natAbs:=by
 have h1:=(zdJ (p:=p) h).2
 have h3:=zdG (p:=p) h
 have e1:(lowQ p q).natAbs*(gI p q).natAbs=q.natAbs:=by rw[←Int.natAbs_mul,h1];split<;>omega
 rw[←e1]
 exact Nat.le_mul_of_pos_right _ (by omega)
end Go.Eng
namespace Go.Eng
structure FQ where
 p:WI
 q:WI
 q1:1≤q.v
 cop:Nat.gcd p.v.natAbs q.v.natAbs=1
theorem zja {y:WI} (hy:1≤y.v):wlen (y.v-1).natAbs≤512:=by
 have h:=(zb6 _).1 y.lim
 refine(zb6 _).2 ?_
 unfold inR at *
 exact Nat.lt_of_le_of_lt (by omega) h
def FQ.l (f:FQ):WI:=⟨f.q.v-1,zja f.q1⟩
noncomputable def fqP (f:FQ):PV:=.ag [.b (decide (f.p.v<0)),D f.p.v.natAbs,.b (decide (f.l.v<0)),D f.l.v.natAbs]
@[go_sem] theorem zr5 (M:PM) (d:Nat) (f:FQ):fz M (d+1+1) (fqP f)=some (fqP f,[]):=_root_.id rfl
@[go_sem] theorem znd (f:FQ):(fqP f).cells=[.b (decide (f.p.v<0)),D f.p.v.natAbs,.b (decide (f.l.v<0)),D f.l.v.natAbs]:=_root_.id rfl
@[go_sem] theorem zp8 (f:FQ):PV.ag [.b (decide (f.p.v<0)),D f.p.v.natAbs,.b (decide (f.l.v<0)),D f.l.v.natAbs]=fqP f:=_root_.id rfl
theorem zkT (x:WI) (e:Int):pf E0 37 [wiP x,.i .i64 e]=some (wiP x):=by
 refine zaf (xf:=zvP) rfl (by simp[zvP]) ?_
 simp only[zvP]
 simp(disch:=omega)only[go_sem,seval,wqq]
theorem zdo (x g:WI) (h:g.v≠0):∃q:WI,q.v=x.v/g.v∧pf E0 21 [wiP x,wiP g]=some (wiP q):=by
 have fd:=zio x g h
 refine⟨x.div g h,rfl,?_⟩
 refine zaf (xf:=zvO) rfl (by simp[zvO]) ?_
 simp only[zvO]
 simp(disch:=omega)only[go_sem,seval,wqq,fd]
noncomputable def wi1:WI:=wiOf 1 (by decide)
theorem zoP:wi1.v=1:=rfl
theorem zc0 (x y:WI):pf E0 20 [.lst [wiP x,wiP y]]=some (.tu [wiP (clip (x.v*y.v)),.i .i64 (lerr (x.v*y.v))]):=by
 refine zaf (xf:=zvD) rfl (by simp[zvD]) ?_
 simp only[zvD]
 have f1:pf E0 34 [.i .i64 1]=some (wiP wi1):=zef (n:=1) (by decide)
 have m1:pf E0 38 [wiP wi1,wiP x]=some (.tu [wiP x,.i .i64 0]):=by
  have h:=zit wi1 x
  rw[zoP,Int.one_mul,zdI x.lim,zbV x.lim] at h
  exact h
 have m2:=zit x y
 generalize wi1=w1 at *
 simp(disch:=omega)only[go_sem,seval,wqq,f1]
 refine zaa zvx.eq_1 ?_
 simp(disch:=omega)only[go_sem,seval,wqq,m1]
 refine zaa zvx.eq_1 ?_
 by_cases h:wlen (x.v*y.v).natAbs≤512
 ·have e:=zdI h
  rw[e] at m2 ⊢
  simp(disch:=omega)only[go_sem,seval,wqq,m2]
  refine zaa zvx.eq_1 ?_
  simp(disch:=omega)only[go_sem,seval,wqq,m2]
 ·have e:=zfO h
  have e2:=zfG h
  rw[e,e2] at m2 ⊢
  simp(disch:=omega)only[go_sem,seval,wqq,m2]
theorem zlA:Nat.gcd wi0.v.natAbs wi1.v.natAbs=1:=by decide
noncomputable def fq0:FQ:=⟨wi0,wi1,by decide,zlA⟩
theorem zmZ:fqP fq0=.ag [.b false,.lst [],.b false,.lst []]:=by
 have h1:D (0:Int).natAbs=.lst []:=zm1.symm
 show PV.ag [.b (decide ((0:Int)<0)),D (0:Int).natAbs,.b (decide ((1:Int)-1<0)),D ((1:Int)-1).natAbs]=_
 rw[show (1:Int)-1=0 by decide,h1];rfl
theorem zgE (x y:WI) (hy:1≤y.v) (hc:Nat.gcd x.v.natAbs y.v.natAbs=1):pf E0 22 [wiP x,wiP y,.i .i64 0,.i .i64 0]=some (.tu [fqP ⟨x,y,hy,hc⟩,.i .i64 0]):=by
 refine zaf (xf:=zuU) rfl (by simp[zuU]) ?_
 simp only[zuU]
 have f1:pf E0 34 [.i .i64 1]=some (wiP wi1):=zef (n:=1) (by decide)
 have s1:=zma y wi1
 rw[zoP] at s1
 have m1:=zkT (clip (y.v-1)) (lerr (y.v-1))
 have cv:=zdB (zja hy)
 generalize lerr (y.v-1)=le at *
 generalize wi1=w1 at *
 have hq:fqP ⟨x,y,hy,hc⟩=.ag [.b (decide (x.v<0)),D x.v.natAbs,.b (decide ((clip (y.v-1)).v<0)),D (clip (y.v-1)).v.natAbs]:=by rw[cv];rfl
 rw[hq]
 generalize clip (y.v-1)=z at *
 simp(disch:=omega)only[go_sem,seval,wqq]
 refine zak [4,5] rfl (by simp only[go_sem,seval]) ?_
 simp(disch:=omega)only[go_sem,seval,wqq,f1,s1,m1,zao,zae]
theorem ziB (x y:WI) {e f:Int} (h:e≠0∨f≠0):pf E0 22 [wiP x,wiP y,.i .i64 e,.i .i64 f]=some (.tu [fqP fq0,.i .i64 4]):=by
 refine zaf (xf:=zuU) rfl (by simp[zuU]) ?_
 simp only[zuU]
 rw[zmZ]
 by_cases he:e=0
 ·have hf:(f=0)=False:=by simp;rcases h with h|h<;>first|exact h|exact absurd he h
  have he:(e=0)=True:=by simp[he]
  simp(disch:=omega)only[go_sem,seval,wqq,he,hf]
 ·have he:(e=0)=False:=by simp[he]
  simp(disch:=omega)only[go_sem,seval,wqq,he]
theorem zis (x y g:WI) (hg:g.v=gI x.v y.v) (hy:0<y.v):∃f:FQ,f.p.v=lowP x.v y.v∧f.q.v=lowQ x.v y.v∧∃a b:WI,pf E0 21 [wiP x,wiP g]=some (wiP a)∧pf E0 21 [wiP y,wiP g]=some (wiP b)∧pf E0 22 [wiP a,wiP b,.i .i64 0,.i .i64 0]=some (.tu [fqP f,.i .i64 0]):=by
 have gn:g.v≠0:=by rw[hg];exact zg7 (by omega)
 obtain⟨a,ha,fa⟩:=zdo x g gn
 obtain⟨b,hb,fb⟩:=zdo y g gn
 have e1:a.v=lowP x.v y.v:=by rw[ha,hg];unfold lowP;rw[if_neg (by omega)]
 have e2:b.v=lowQ x.v y.v:=by rw[hb,hg];unfold lowQ;rw[if_neg (by omega)]
 have hq:1≤b.v:=by rw[e2];exact zdK (by omega)
 have hc:Nat.gcd a.v.natAbs b.v.natAbs=1:=by rw[e1,e2];exact zeE (by omega)
 exact⟨⟨a,b,hq,hc⟩,e1,e2,a,b,fa,fb,zgE a b hq hc⟩
theorem zha (p q:Int) (h:q<0):lowP (-p) (-q)=lowP p q∧lowQ (-p) (-q)=lowQ p q:=by
 have h2:¬ -q<0:=by omega
 unfold lowP lowQ
 rw[zny]
 simp only[h,h2,if_true,if_false,and_self]
theorem zir (x y:WI) (h:y.v≠0):∃f:FQ,f.p.v=lowP x.v y.v∧f.q.v=lowQ x.v y.v∧pf E0 24 [wiP x,wiP y]=some (.tu [fqP f,.i .i64 0]):=by
 by_cases hn:y.v<0
 ·have hg:=zfT x.neg y.neg
  obtain⟨f,h1,h2,a,b,fa,fb,fl⟩:=zis x.neg y.neg (x.neg.gcd y.neg) rfl (by show 0 < -y.v;omega)
  obtain⟨l1,l2⟩:=zha x.v y.v hn
  refine⟨f,h1.trans l1,h2.trans l2,?_⟩
  generalize x.neg.gcd y.neg=g at *
  refine zaf (xf:=zu4) rfl (by simp[zu4]) ?_
  simp only[zu4]
  have sy:=zaN y
  have sc:cmpI y.v 0 = -1:=by unfold cmpI;rw[if_pos hn]
  rw[sc] at sy
  have n1:=zjU x
  have n2:=zjU y
  generalize x.neg=xn at *
  generalize y.neg=yn at *
  simp(disch:=omega)only[go_sem,seval,wqq,sy]
  refine zak [3] rfl (by simp only[go_sem,seval]) ?_
  simp(disch:=omega)only[go_sem,seval,wqq,n1,n2,hg]
  refine zak [3,6] rfl (by simp only[go_sem,seval]) ?_
  simp(disch:=omega)only[go_sem,seval,wqq,fa,fb,fl]
 ·have hg:=zfT x y
  obtain⟨f,h1,h2,a,b,fa,fb,fl⟩:=zis x y (x.gcd y) rfl (by omega)
  refine⟨f,h1,h2,?_⟩
  generalize x.gcd y=g at *
  refine zaf (xf:=zu4) rfl (by simp[zu4]) ?_
  simp only[zu4]
  have sy:=zaN y
  have sc:cmpI y.v 0=1:=by unfold cmpI;rw[if_neg hn,if_pos (by omega)]
  rw[sc] at sy
  simp(disch:=omega)only[go_sem,seval,wqq,sy,hg]
  refine zak [3,6] rfl (by simp only[go_sem,seval]) ?_
  simp(disch:=omega)only[go_sem,seval,wqq,fa,fb,fl]
end Go.Eng
namespace Go.Eng
theorem zn9 (f:FQ):pf E0 64 [fqP f]=some (wiP f.p):=by
 refine zaf (xf:=zuI) rfl (by simp[zuI]) ?_
 simp only[zuI]
 simp(disch:=omega)only[go_sem,seval,wqq]
theorem zcZ (f:FQ):pf E0 19 [fqP f]=some (wiP f.q):=by
 refine zaf (xf:=zuH) rfl (by simp[zuH]) ?_
 simp only[zuH]
 have f1:pf E0 34 [.i .i64 1]=some (wiP wi1):=zef (n:=1) (by decide)
 have s1:=zjP f.l wi1
 have e:f.l.v+wi1.v=f.q.v:=by show f.q.v-1+1=f.q.v;omega
 have hc:clip f.q.v=f.q:=zbV f.q.lim
 rw[e,hc] at s1
 have m1:=zkT f.q (lerr f.q.v)
 generalize lerr f.q.v=le at *
 generalize wi1=w1 at *
 simp(disch:=omega)only[go_sem,seval,wqq]
 refine zah [3] rfl ?_ ?_
 ·simp(disch:=omega)only[go_sem,seval,wqq,f1,s1,m1]
  exact⟨_,rfl,rfl⟩
 simp(disch:=omega)only[go_sem,seval,wqq,f1,s1,m1]
theorem zme {p q:Int} (hp:Fits64 p) (hq:Fits64 q) (h:q≠0):∃f:FQ,f.p.v=lowP p q∧f.q.v=lowQ p q∧pf E0 17 [.i .i64 p,.i .i64 q]=some (.tu [fqP f,.i .i64 0]):=by
 obtain⟨x,hx,fx⟩:=zhR hp
 obtain⟨y,hy,fy⟩:=zhR hq
 obtain⟨f,h1,h2,fm⟩:=zir x y (by rw[hy];exact h)
 rw[hx,hy] at h1 h2
 refine⟨f,h1,h2,?_⟩
 refine zaf (xf:=zwu) rfl (by simp[zwu]) ?_
 simp only[zwu]
 simp(disch:=omega)only[go_sem,seval,wqq,fx,fy,fm]
theorem zlC (x y:WI):(x.gcd y).v=gI x.v y.v:=rfl
@[go_sem] theorem zqj (x y:WI):group 2 2 [.b (decide (x.v<0)),Dw (wlen x.v.natAbs) x.v.natAbs,.b (decide (y.v<0)),Dw (wlen y.v.natAbs) y.v.natAbs]=[wiP x,wiP y]:=_root_.id rfl
theorem ziv (a b:FQ) {g s t cx cy cs cd:WI} {ex ey es ed:Int} (hg:pf E0 18 [wiP a.q,wiP b.q]=some (wiP g)) (fs:pf E0 21 [wiP b.q,wiP g]=some (wiP s)) (ft:pf E0 21 [wiP a.q,wiP g]=some (wiP t))
  (nx:pf E0 20 [.lst [wiP a.p,wiP s]]=some (.tu [wiP cx,.i .i64 ex])) (ny:pf E0 20 [.lst [wiP b.p,wiP t]]=some (.tu [wiP cy,.i .i64 ey])) (ns:pf E0 23 [wiP cx,wiP cy]=some (.tu [wiP cs,.i .i64 es]))
  (nd:pf E0 20 [.lst [wiP t,wiP b.q]]=some (.tu [wiP cd,.i .i64 ed])) (f:FQ) (e:Int)
  (hR:(ex=0∧ey=0∧es=0∧ed=0∧pf E0 24 [wiP cs,wiP cd]=some (.tu [fqP f,.i .i64 e]))∨(¬(ex=0∧ey=0∧es=0∧ed=0)∧f=fq0∧e=4)) :
  pf E0 9 [fqP a,fqP b]=some (.tu [fqP f,.i .i64 e]):=by
 have da:=zcZ a
 have db:=zcZ b
 refine zaf (xf:=zwd) rfl (by simp[zwd]) ?_
 simp only[zwd]
 simp(disch:=omega)only[go_sem,seval,wqq]
 refine zak [3] rfl (by simp only[go_sem,seval]) ?_
 simp(disch:=omega)only[go_sem,seval,wqq,da,db,hg]
 refine zah [21,6] rfl ?_ ?_
 ·simp(disch:=omega)only[go_sem,seval,wqq,db,fs,nx,zao,zae]
  exact⟨_,rfl,rfl⟩
 simp(disch:=omega)only[go_sem,seval,wqq,db,fs,nx,zao,zae]
 refine zah [32,6] rfl ?_ ?_
 ·simp(disch:=omega)only[go_sem,seval,wqq,da,ft,ny,zao,zae]
  exact⟨_,rfl,rfl⟩
 simp(disch:=omega)only[go_sem,seval,wqq,da,ft,ny,ns,zao,zae]
 refine zak [6,3] rfl (by simp only[go_sem,seval]) ?_
 rcases hR with⟨h1,h2,h3,h4,hM⟩|⟨hn,hf,he⟩
 ·subst h1 h2 h3 h4
  simp(disch:=omega)only[go_sem,seval,wqq,da,db,ft,nd,hM,zao,zae]
 ·subst hf he
  rw[zmZ]
  by_cases h1:ex=0
  ·by_cases h2:ey=0
   ·by_cases h3:es=0
    ·have h4:(ed=0)=False:=by simp;exact fun q=>hn ⟨h1,h2,h3,q⟩
     subst h1 h2 h3
     simp(disch:=omega)only[go_sem,seval,wqq,da,db,ft,nd,h4,zao,zae]
    ·have h3:(es=0)=False:=by simp[h3]
     subst h1 h2
     simp(disch:=omega)only[go_sem,seval,wqq,da,db,ft,nd,h3,zao,zae]
   ·have h2:(ey=0)=False:=by simp[h2]
    subst h1
    simp(disch:=omega)only[go_sem,seval,wqq,da,db,ft,nd,h2,zao,zae]
  ·have h1:(ex=0)=False:=by simp[h1]
   simp(disch:=omega)only[go_sem,seval,wqq,da,db,ft,nd,h1,zao,zae]
def adX (a b:FQ):Int:=a.p.v*(b.q.v/gI a.q.v b.q.v)
def adY (a b:FQ):Int:=b.p.v*(a.q.v/gI a.q.v b.q.v)
def adD (a b:FQ):Int:=a.q.v/gI a.q.v b.q.v*b.q.v
def adOk (a b:FQ):Prop:=inR (adX a b).natAbs∧inR (adY a b).natAbs∧inR (adX a b+adY a b).natAbs∧inR (adD a b).natAbs
theorem zku (a b:FQ):adD a b≠0:=by
 have ha:=a.q1
 have hb:=b.q1
 have h1:a.q.v/gI a.q.v b.q.v*gI a.q.v b.q.v=a.q.v:=Int.ediv_mul_cancel (zcg _ _)
 have h2:a.q.v/gI a.q.v b.q.v≠0:=fun q=>by rw[q] at h1;omega
 exact Int.mul_ne_zero h2 (by omega)
theorem zdH {z:Int} (h:inR z.natAbs):(clip z).v=z∧lerr z=0:=⟨zdB ((zb6 _).2 h),zdI ((zb6 _).2 h)⟩
theorem zfM {z:Int} (h:lerr z=0):inR z.natAbs:=by
 by_cases q:wlen z.natAbs≤512
 ·exact(zb6 _).1 q
 ·rw[zfO q] at h;cases h
theorem zn7 (a b:FQ):(adOk a b→∃f:FQ,f.p.v=lowP (adX a b+adY a b) (adD a b)∧f.q.v=lowQ (adX a b+adY a b) (adD a b)∧pf E0 9 [fqP a,fqP b]=some (.tu [fqP f,.i .i64 0])) ∧
  (¬adOk a b→pf E0 9 [fqP a,fqP b]=some (.tu [fqP fq0,.i .i64 4])):=by
 have hg:=zfT a.q b.q
 have gv:=zlC a.q b.q
 have gn:(a.q.gcd b.q).v≠0:=by rw[gv];exact zg7 (by have:=b.q1;omega)
 obtain⟨s,hs,fs⟩:=zdo b.q (a.q.gcd b.q) gn
 obtain⟨t,ht,ft⟩:=zdo a.q (a.q.gcd b.q) gn
 rw[gv] at hs ht
 have nx:=zc0 a.p s
 have ny:=zc0 b.p t
 have nd:=zc0 t b.q
 have eX:a.p.v*s.v=adX a b:=by rw[hs];rfl
 have eY:b.p.v*t.v=adY a b:=by rw[ht];rfl
 have eD:t.v*b.q.v=adD a b:=by rw[ht];rfl
 rw[eX] at nx
 rw[eY] at ny
 rw[eD] at nd
 have ns:=zjP (clip (adX a b)) (clip (adY a b))
 constructor
 ·rintro⟨r1,r2,r3,r4⟩
  obtain⟨c1,l1⟩:=zdH r1
  obtain⟨c2,l2⟩:=zdH r2
  obtain⟨c3,l3⟩:=zdH r3
  obtain⟨c4,l4⟩:=zdH r4
  rw[c1,c2] at ns
  obtain⟨f,h1,h2,fm⟩:=zir (clip (adX a b+adY a b)) (clip (adD a b)) (by rw[c4];exact zku a b)
  rw[c3,c4] at h1 h2
  exact⟨f,h1,h2,ziv a b hg fs ft nx ny ns nd f 0 (.inl ⟨l1,l2,l3,l4,fm⟩)⟩
 ·intro hn
  refine ziv a b hg fs ft nx ny ns nd fq0 4 (.inr ⟨fun ⟨l1,l2,l3,l4⟩=>hn ?_,rfl,rfl⟩)
  have r1:=zfM l1
  have r2:=zfM l2
  rw[(zdH r1).1,(zdH r2).1] at l3
  exact⟨r1,r2,zfM l3,zfM l4⟩
end Go.Eng
namespace Go.Eng
def FQ.neg (f:FQ):FQ:=⟨f.p.neg,f.q,f.q1,by show Nat.gcd (-f.p.v).natAbs f.q.v.natAbs=1;rw[Int.natAbs_neg];exact f.cop⟩
theorem ziy (a:FQ):pf E0 67 [fqP a]=some (.i .i64 (cmpI a.p.v 0)):=by
 refine zaf (xf:=zvR) rfl (by simp[zvR]) ?_
 simp only[zvR]
 simp(disch:=omega)only[go_sem,seval,wqq]
theorem zix (a b:FQ) {g h u v w z cp cq:WI} {ep eq:Int} (f:FQ) (e:Int) (hg:pf E0 18 [wiP a.p,wiP b.q]=some (wiP g)) (hh:pf E0 18 [wiP b.p,wiP a.q]=some (wiP h))
  (fu:pf E0 21 [wiP a.p,wiP g]=some (wiP u)) (fv:pf E0 21 [wiP b.p,wiP h]=some (wiP v)) (n1:pf E0 20 [.lst [wiP u,wiP v]]=some (.tu [wiP cp,.i .i64 ep]))
  (fw:pf E0 21 [wiP a.q,wiP h]=some (wiP w)) (fz':pf E0 21 [wiP b.q,wiP g]=some (wiP z)) (n2:pf E0 20 [.lst [wiP w,wiP z]]=some (.tu [wiP cq,.i .i64 eq]))
  (fl:pf E0 22 [wiP cp,wiP cq,.i .i64 ep,.i .i64 eq]=some (.tu [fqP f,.i .i64 e])):pf E0 8 [fqP a,fqP b]=some (.tu [fqP f,.i .i64 e]):=by
 have da:=zcZ a
 have db:=zcZ b
 refine zaf (xf:=zv8) rfl (by simp[zv8]) ?_
 simp only[zv8]
 simp(disch:=omega)only[go_sem,seval,wqq]
 refine zah [12,17,2] rfl ?_ ?_
 ·simp(disch:=omega)only[go_sem,seval,wqq,da,db,hg,hh]
  exact⟨_,rfl,rfl⟩
 simp(disch:=omega)only[go_sem,seval,wqq,da,db,hg,hh]
 refine zah [27,7] rfl ?_ ?_
 ·simp(disch:=omega)only[go_sem,seval,wqq,fu,fv,n1,zao,zae]
  exact⟨_,rfl,rfl⟩
 simp(disch:=omega)only[go_sem,seval,wqq,fu,fv,n1,zao,zae]
 refine zak [7,3,6] rfl (by simp only[go_sem,seval]) ?_
 simp(disch:=omega)only[go_sem,seval,wqq,da,db,fw,fz',n2,fl,zao,zae]
end Go.Eng
namespace Go.Eng
theorem zhF {p s:Int} (hs:s≠0):Nat.Coprime (p/gI p s).natAbs (s/gI p s).natAbs:=by
 have g:=zdG (p:=p) hs
 have e1:(p/gI p s).natAbs*(gI p s).natAbs=p.natAbs:=by rw[←Int.natAbs_mul,Int.ediv_mul_cancel (zcg p s)]
 have e2:(s/gI p s).natAbs*(gI p s).natAbs=s.natAbs:=by rw[←Int.natAbs_mul,Int.ediv_mul_cancel (zcE p s)]
 have e3:(gI p s).natAbs=Nat.gcd p.natAbs s.natAbs:=Int.natAbs_natCast _
 have e4:=Nat.gcd_mul_right (p/gI p s).natAbs (gI p s).natAbs (s/gI p s).natAbs
 rw[e1,e2,←e3] at e4
 have:0<(gI p s).natAbs:=by omega
 exact Nat.eq_of_mul_eq_mul_right this (by rw[Nat.one_mul];exact e4.symm)
theorem zlM {p q r s:Int} (hq:0<q) (hs:0<s) (c1:Nat.gcd p.natAbs q.natAbs=1) (c2:Nat.gcd r.natAbs s.natAbs=1) :
  p/gI p s*(r/gI r q)=lowP (p*r) (q*s)∧q/gI r q*(s/gI p s)=lowQ (p*r) (q*s)∧0<q/gI r q*(s/gI p s)∧Nat.gcd (p/gI p s*(r/gI r q)).natAbs (q/gI r q*(s/gI p s)).natAbs=1:=by
 have g1:=zdG (p:=p) (q:=s) (by omega)
 have g2:=zdG (p:=r) (q:=q) (by omega)
 have k1:=zhF (p:=p) (s:=s) (by omega)
 have k2:=zhF (p:=r) (s:=q) (by omega)
 have a1:p/gI p s*gI p s=p:=Int.ediv_mul_cancel (zcg p s)
 have a2:s/gI p s*gI p s=s:=Int.ediv_mul_cancel (zcE p s)
 have a3:r/gI r q*gI r q=r:=Int.ediv_mul_cancel (zcg r q)
 have a4:q/gI r q*gI r q=q:=Int.ediv_mul_cancel (zcE r q)
 generalize gI p s=g at *
 generalize gI r q=h at *
 generalize p/g=u at *
 generalize s/g=z at *
 generalize r/h=v at *
 generalize q/h=w at *
 have z0:0<z:=Int.pos_of_mul_pos_left (by rw[a2];exact hs) g1
 have w0:0<w:=Int.pos_of_mul_pos_left (by rw[a4];exact hq) g2
 have du:u.natAbs∣p.natAbs:=Int.natAbs_dvd_natAbs.2 ⟨g,a1.symm⟩
 have dw:w.natAbs∣q.natAbs:=Int.natAbs_dvd_natAbs.2 ⟨h,a4.symm⟩
 have dv:v.natAbs∣r.natAbs:=Int.natAbs_dvd_natAbs.2 ⟨h,a3.symm⟩
 have dz:z.natAbs∣s.natAbs:=Int.natAbs_dvd_natAbs.2 ⟨g,a2.symm⟩
 have k3:Nat.Coprime u.natAbs w.natAbs:=Nat.Coprime.coprime_dvd_left du (Nat.Coprime.coprime_dvd_right dw c1)
 have k4:Nat.Coprime v.natAbs z.natAbs:=Nat.Coprime.coprime_dvd_left dv (Nat.Coprime.coprime_dvd_right dz c2)
 have hc:Nat.gcd (u*v).natAbs (w*z).natAbs=1:=by
  rw[Int.natAbs_mul,Int.natAbs_mul]
  exact Nat.Coprime.mul_left (Nat.Coprime.mul_right k3 k1) (Nat.Coprime.mul_right k2 k4)
 have hp:0<w*z:=Int.mul_pos w0 z0
 have hx:q*s≠0:=Int.mul_ne_zero (by omega) (by omega)
 have cr:=zch (p:=p*r) hx
 obtain⟨e1,e2⟩:=zcV (p:=u*v) (q:=w*z) hp (zdK hx) hc (zeE hx) (by
  apply Int.eq_of_mul_eq_mul_right (a:=q*s) hx
  have:u*v*(q*s)=p*r*(w*z):=by rw[←a1,←a2,←a3,←a4];grind
  calc u*v*lowQ (p*r) (q*s)*(q*s)=u*v*(q*s)*lowQ (p*r) (q*s):=by grind
   _=p*r*(w*z)*lowQ (p*r) (q*s):=by rw[this]
   _=p*r*lowQ (p*r) (q*s)*(w*z):=by grind
   _=lowP (p*r) (q*s)*(q*s)*(w*z):=by rw[cr]
   _=lowP (p*r) (q*s)*(w*z)*(q*s):=by grind)
 exact⟨e1,e2,hp,hc⟩
def muP (a b:FQ):Int:=lowP (a.p.v*b.p.v) (a.q.v*b.q.v)
def muQ (a b:FQ):Int:=lowQ (a.p.v*b.p.v) (a.q.v*b.q.v)
theorem zkS (a b:FQ):(inR (muP a b).natAbs∧inR (muQ a b).natAbs→∃f:FQ,f.p.v=muP a b∧f.q.v=muQ a b∧pf E0 8 [fqP a,fqP b]=some (.tu [fqP f,.i .i64 0])) ∧
  (¬(inR (muP a b).natAbs∧inR (muQ a b).natAbs)→pf E0 8 [fqP a,fqP b]=some (.tu [fqP fq0,.i .i64 4])):=by
 have qa:=a.q1
 have qb:=b.q1
 obtain⟨m1,m2,m3,m4⟩:=zlM (p:=a.p.v) (q:=a.q.v) (r:=b.p.v) (s:=b.q.v) (by omega) (by omega) a.cop b.cop
 have hg:=zfT a.p b.q
 have hh:=zfT b.p a.q
 have gv:=zlC a.p b.q
 have hv:=zlC b.p a.q
 have gn:(a.p.gcd b.q).v≠0:=by rw[gv];exact zg7 (by omega)
 have hn:(b.p.gcd a.q).v≠0:=by rw[hv];exact zg7 (by omega)
 obtain⟨u,eu,fu⟩:=zdo a.p _ gn
 obtain⟨v,ev,fv⟩:=zdo b.p _ hn
 obtain⟨w,ew,fw⟩:=zdo a.q _ hn
 obtain⟨z,ez,fz'⟩:=zdo b.q _ gn
 rw[gv] at eu ez
 rw[hv] at ev ew
 have n1:=zc0 u v
 have n2:=zc0 w z
 have e1:u.v*v.v=muP a b:=by rw[eu,ev];exact m1
 have e2:w.v*z.v=muQ a b:=by rw[ew,ez];exact m2
 rw[m1,m2] at m4
 rw[m2] at m3
 have m3:0<muQ a b:=m3
 have m4:Nat.gcd (muP a b).natAbs (muQ a b).natAbs=1:=m4
 rw[e1] at n1
 rw[e2] at n2
 constructor
 ·rintro⟨r1,r2⟩
  obtain⟨c1,l1⟩:=zdH r1
  obtain⟨c2,l2⟩:=zdH r2
  have fl:=zgE (clip (muP a b)) (clip (muQ a b)) (by rw[c2];omega) (by rw[c1,c2];exact m4)
  rw[l1] at n1
  rw[l2] at n2
  exact⟨⟨clip (muP a b),clip (muQ a b),by rw[c2];omega,by rw[c1,c2];exact m4⟩,c1,c2,zix a b _ 0 hg hh fu fv n1 fw fz' n2 fl⟩
 ·intro hno
  refine zix a b fq0 4 hg hh fu fv n1 fw fz' n2 (ziB _ _ ?_)
  by_cases l1:lerr (muP a b)=0
  ·right
   intro l2
   exact hno ⟨zfM l1,zfM l2⟩
  ·exact .inl l1
end Go.Eng
namespace Go.Eng
theorem ziw (a b f r:FQ) {e:Int} (h:pf E0 24 [wiP b.q,wiP b.p]=some (.tu [fqP f,.i .i64 0])) (hr:pf E0 8 [fqP a,fqP f]=some (.tu [fqP r,.i .i64 e])):pf E0 65 [fqP a,fqP b]=some (.tu [fqP r,.i .i64 e]):=by
 have db:=zcZ b
 refine zaf (xf:=zwk) rfl (by simp[zwk]) ?_
 simp only[zwk]
 simp(disch:=omega)only[go_sem,seval,wqq]
 refine zah [11] rfl ?_ ?_
 ·simp(disch:=omega)only[go_sem,seval,wqq,db,h]
  exact⟨_,rfl,rfl⟩
 simp(disch:=omega)only[go_sem,seval,wqq,db,h,hr]
theorem zlq {p q r s:Int} (hr:r≠0) (hs:0<s) (hq:0<q):lowP (p*lowP s r) (q*lowQ s r)=lowP (p*s) (q*r)∧lowQ (p*lowP s r) (q*lowQ s r)=lowQ (p*s) (q*r):=by
 have h1:=zdK (p:=s) hr
 refine zlL (Int.mul_ne_zero (by omega) (by omega)) (Int.mul_ne_zero (by omega) hr) ?_
 have h2:=zch (p:=s) hr
 calc p*lowP s r*(q*r)=p*q*(lowP s r*r):=by grind
  _=p*q*(s*lowQ s r):=by rw[h2]
  _=p*s*(q*lowQ s r):=by grind
def dvP (a b:FQ):Int:=lowP (a.p.v*b.q.v) (a.q.v*b.p.v)
def dvQ (a b:FQ):Int:=lowQ (a.p.v*b.q.v) (a.q.v*b.p.v)
theorem zn8 (a b:FQ) (h:b.p.v≠0):(inR (dvP a b).natAbs∧inR (dvQ a b).natAbs→∃f:FQ,f.p.v=dvP a b∧f.q.v=dvQ a b∧pf E0 65 [fqP a,fqP b]=some (.tu [fqP f,.i .i64 0])) ∧
  (¬(inR (dvP a b).natAbs∧inR (dvQ a b).natAbs)→pf E0 65 [fqP a,fqP b]=some (.tu [fqP fq0,.i .i64 4])):=by
 have qa:=a.q1
 have qb:=b.q1
 obtain⟨f,f1,f2,fm⟩:=zir b.q b.p h
 obtain⟨l1,l2⟩:=zlq (p:=a.p.v) (q:=a.q.v) (r:=b.p.v) (s:=b.q.v) h (by omega) (by omega)
 have e1:muP a f=dvP a b:=by unfold muP dvP;rw[f1,f2];exact l1
 have e2:muQ a f=dvQ a b:=by unfold muQ dvQ;rw[f1,f2];exact l2
 have hm:=zkS a f
 rw[e1,e2] at hm
 refine⟨fun hR=>?_,fun hn=>ziw a b f fq0 fm (hm.2 hn)⟩
 obtain⟨r,r1,r2,hr⟩:=hm.1 hR
 exact⟨r,r1,r2,ziw a b f r fm hr⟩
end Go.Eng
namespace Go.Eng
noncomputable def ftx (p q:Int):List UInt8:=if q=1 then decI p else decI p++[47]++decI q
theorem zd5 (x:WI):(decI x.v).length≤1000000:=by
 have h:=zjC ((zb6 _).1 x.lim)
 have h1:(dec x.v.natAbs).length≤4956+1:=by
  unfold dec;split
  ·simp
  ·rw[zc9];omega
 unfold decI;split<;>(try simp only[List.length_cons])<;>omega
theorem ziz (f:FQ):pf E0 16 [fqP f]=some (.s (ftx f.p.v f.q.v)):=by
 have df:=zcZ f
 have s1:=zn5 f.p
 have s2:=zn5 f.q
 have sg:=zaN f.l
 have l1:=zd5 f.p
 have l2:=zd5 f.q
 have hl:f.l.v=f.q.v-1:=rfl
 have q1:=f.q1
 refine zaf (xf:=zuF) rfl (by simp[zuF]) ?_
 simp only[zuF]
 unfold ftx
 by_cases h:f.q.v=1
 ·rw[if_pos h]
  have sc:(cmpI f.l.v 0=0)=True:=by rw[hl,h];simp[cmpI]
  simp(disch:=omega)only[go_sem,seval,wqq,sg,sc,s1]
 ·rw[if_neg h]
  have sc:(cmpI f.l.v 0=0)=False:=by
   have:cmpI f.l.v 0=1:=by unfold cmpI;rw[if_neg (by omega),if_pos (by omega)]
   rw[this];simp
  have a1:binP .add (.s (decI f.p.v)) (.s [47])=some (.s (decI f.p.v++[47])):=zer _ _ (by simp only[List.length_cons,List.length_nil];omega)
  have a2:binP .add (.s (decI f.p.v++[47])) (.s (decI f.q.v))=some (.s (decI f.p.v++[47]++decI f.q.v)):=zer _ _ (by simp only[List.length_append,List.length_cons,List.length_nil];omega)
  simp(disch:=omega)only[go_sem,seval,wqq,sg,sc]
  refine zak [1] rfl (by simp only[go_sem,seval]) ?_
  simp(disch:=omega)only[go_sem,seval,wqq,df,s1,s2,a1,a2]
end Go.Eng
namespace Go.Eng
end Go.Eng
namespace Go.Eng
end Go.Eng
namespace Go.Eng
end Go.Eng
namespace Go.Eng
end Go.Eng
namespace Go.Eng
theorem zlg {x y:WI} (h:x.v=y.v):x=y:=by cases x;cases y;cases h;rfl
theorem zkI {f g:FQ} (h1:f.p.v=g.p.v) (h2:f.q.v=g.q.v):f=g:=by
 have e1:=zlg h1
 have e2:=zlg h2
 cases f;cases g
 simp only at e1 e2
 subst e1 e2;rfl
def FQ.is (f:FQ) (n d:Int):Prop:=f.p.v*d=n*f.q.v
theorem zh2 {f:FQ} {n d:Int} (h:d≠0) (h1:f.p.v=lowP n d) (h2:f.q.v=lowQ n d):f.is n d:=by
 unfold FQ.is;rw[h1,h2];exact zch h
theorem zcH (f:FQ):f.is f.p.v f.q.v:=rfl
theorem zh3 {f g:FQ} {n d n' d':Int} (hd:d≠0) (hd':d'≠0) (hf:f.is n d) (hg:g.is n' d') (e:n*d'=n'*d):f=g:=by
 unfold FQ.is at hf hg
 have qf:=f.q1
 have qg:=g.q1
 have key:f.p.v*g.q.v=g.p.v*f.q.v:=by
  apply Int.eq_of_mul_eq_mul_right (a:=d*d') (Int.mul_ne_zero hd hd')
  calc f.p.v*g.q.v*(d*d')=f.p.v*d*(g.q.v*d'):=by grind
   _=n*f.q.v*(g.q.v*d'):=by rw[hf]
   _=n*d'*(f.q.v*g.q.v):=by grind
   _=n'*d*(f.q.v*g.q.v):=by rw[e]
   _=n'*g.q.v*(f.q.v*d):=by grind
   _=g.p.v*d'*(f.q.v*d):=by rw[hg]
   _=g.p.v*f.q.v*(d*d'):=by grind
 obtain⟨a,b⟩:=zcV (by omega) (by omega) f.cop g.cop key
 exact zkI a b
theorem zjD {f:FQ} {n d:Int} (h:f.is n d) (k:Int):f.is (n*k) (d*k):=by
 unfold FQ.is at *
 rw[←Int.mul_assoc,h];grind
def fsz (n:Nat) (f:FQ):Prop:=tlen f.p.v.natAbs≤n∧tlen f.q.v.natAbs≤n
theorem zgW {a g:Int} (h:g∣a):tlen (a/g).natAbs≤tlen a.natAbs:=by
 refine zaA ?_
 rw[Int.natAbs_ediv_of_dvd h];exact Nat.div_le_self _ _
theorem zm3 (a b:FQ) {n m:Nat} (ha:fsz n a) (hb:fsz m b) (h:n+m+1<1230):∃f:FQ,pf E0 9 [fqP a,fqP b]=some (.tu [fqP f,.i .i64 0])∧f.is (a.p.v*b.q.v+b.p.v*a.q.v) (a.q.v*b.q.v)∧fsz (n+m+1) f:=by
 obtain⟨a1,a2⟩:=ha
 obtain⟨b1,b2⟩:=hb
 have qa:=a.q1
 have qb:=b.q1
 have k1:=zgW (zcE a.q.v b.q.v)
 have k2:=zgW (zcg a.q.v b.q.v)
 have d1:b.q.v/gI a.q.v b.q.v*gI a.q.v b.q.v=b.q.v:=Int.ediv_mul_cancel (zcE _ _)
 have d2:a.q.v/gI a.q.v b.q.v*gI a.q.v b.q.v=a.q.v:=Int.ediv_mul_cancel (zcg _ _)
 have t1:tlen (adX a b).natAbs≤n+m:=Nat.le_trans (zaw _ _) (by omega)
 have t2:tlen (adY a b).natAbs≤n+m:=Nat.le_trans (zaw _ _) (by omega)
 have t3:tlen (adD a b).natAbs≤n+m:=Nat.le_trans (zaw _ _) (by omega)
 have t4:tlen (adX a b+adY a b).natAbs≤n+m+1:=Nat.le_trans (zaV _ _) (by omega)
 have dn:=zku a b
 obtain⟨f,h1,h2,hf⟩:=(zn7 a b).1 ⟨zdn (by omega),zdn (by omega),zdn (by omega),zdn (by omega)⟩
 refine⟨f,hf,?_,?_,?_⟩
 ·have hs:=zjD (zh2 dn h1 h2) (gI a.q.v b.q.v)
  have e1:(adX a b+adY a b)*gI a.q.v b.q.v=a.p.v*b.q.v+b.p.v*a.q.v:=by
   unfold adX adY
   rw[Int.add_mul,Int.mul_assoc,Int.mul_assoc,d1,d2]
  have e2:adD a b*gI a.q.v b.q.v=a.q.v*b.q.v:=by
   unfold adD
   rw[Int.mul_right_comm,d2]
  rwa [e1,e2] at hs
 ·rw[h1];exact Nat.le_trans (zaA (zfP dn)) t4
 ·rw[h2];exact Nat.le_trans (zaA (zfQ dn)) (by omega)
theorem znG (a b:FQ) {n m:Nat} (ha:fsz n a) (hb:fsz m b) (h:n+m<1230):∃f:FQ,pf E0 8 [fqP a,fqP b]=some (.tu [fqP f,.i .i64 0])∧f.is (a.p.v*b.p.v) (a.q.v*b.q.v)∧fsz (n+m) f:=by
 obtain⟨a1,a2⟩:=ha
 obtain⟨b1,b2⟩:=hb
 have qa:=a.q1
 have qb:=b.q1
 have dn:a.q.v*b.q.v≠0:=Int.mul_ne_zero (by omega) (by omega)
 have t1:tlen (muP a b).natAbs≤n+m:=Nat.le_trans (zaA (zfP dn)) (Nat.le_trans (zaw _ _) (by omega))
 have t2:tlen (muQ a b).natAbs≤n+m:=Nat.le_trans (zaA (zfQ dn)) (Nat.le_trans (zaw _ _) (by omega))
 obtain⟨f,h1,h2,hf⟩:=(zkS a b).1 ⟨zdn (by omega),zdn (by omega)⟩
 exact⟨f,hf,zh2 dn h1 h2,by rw[h1];exact t1,by rw[h2];exact t2⟩
theorem zkE (a b:FQ) (hb0:b.p.v≠0) {n m:Nat} (ha:fsz n a) (hb:fsz m b) (h:n+m<1230):∃f:FQ,pf E0 65 [fqP a,fqP b]=some (.tu [fqP f,.i .i64 0])∧f.is (a.p.v*b.q.v) (a.q.v*b.p.v)∧fsz (n+m) f:=by
 obtain⟨a1,a2⟩:=ha
 obtain⟨b1,b2⟩:=hb
 have qa:=a.q1
 have dn:a.q.v*b.p.v≠0:=Int.mul_ne_zero (by omega) hb0
 have t1:tlen (dvP a b).natAbs≤n+m:=Nat.le_trans (zaA (zfP dn)) (Nat.le_trans (zaw _ _) (by omega))
 have t2:tlen (dvQ a b).natAbs≤n+m:=Nat.le_trans (zaA (zfQ dn)) (Nat.le_trans (zaw _ _) (by omega))
 obtain⟨f,h1,h2,hf⟩:=(zn8 a b hb0).1 ⟨zdn (by omega),zdn (by omega)⟩
 exact⟨f,hf,zh2 dn h1 h2,by rw[h1];exact t1,by rw[h2];exact t2⟩
theorem zjl {a b c d:Int} (h:a-b=c-d):cmpI a b=cmpI c d:=by
 unfold cmpI
 have e1:(a<b)=(c<d):=by simp only[eq_iff_iff];omega
 have e2:(b<a)=(d<c):=by simp only[eq_iff_iff];omega
 simp only[e1,e2]
theorem ze9 (a b:Int):cmpI b a = -cmpI a b:=by
 unfold cmpI
 rcases Int.lt_trichotomy a b with h|h|h
 ·rw[if_neg (by omega),if_pos h,if_pos h];rfl
 ·subst h;rw[if_neg (by omega),if_neg (by omega)];rfl
 ·rw[if_pos h,if_neg (by omega),if_pos h]
theorem zd4 {a b k:Int} (hk:0<k):cmpI (a*k) (b*k)=cmpI a b:=by
 unfold cmpI
 rcases Int.lt_trichotomy a b with h|h|h
 ·have:=Int.mul_lt_mul_of_pos_right h hk
  rw[if_pos this,if_pos h]
 ·subst h;rw[if_neg (by omega),if_neg (by omega),if_neg (by omega),if_neg (by omega)]
 ·have:=Int.mul_lt_mul_of_pos_right h hk
  rw[if_neg (by omega),if_pos this,if_neg (by omega),if_pos h]
theorem zhu {p q r s:Int} (hq:0<q) (hs:0<s) (h:p/q≠r/s):cmpI (p*s) (r*q)=cmpI (p/q) (r/s):=by
 have key:∀{p q r s:Int},0<q→0<s→p/q<r/s→p*s<r*q:=fun {p q r s} hq hs h=>by
  have d1:=Int.mul_ediv_add_emod p q
  have d2:=Int.mul_ediv_add_emod r s
  have m1:=Int.emod_lt_of_pos p hq
  have m2:=Int.emod_nonneg r (show s≠0 by omega)
  have h1:p<q*(r/s):=by
   have:q*(p/q+1)≤q*(r/s):=Int.mul_le_mul_of_nonneg_left (by omega) (by omega)
   rw[Int.mul_add] at this
   omega
  have h2:p*s<q*(r/s)*s:=Int.mul_lt_mul_of_pos_right h1 hs
  have h3:q*(r/s)*s≤r*q:=by
   have:s*(r/s)*q≤r*q:=Int.mul_le_mul_of_nonneg_right (by omega) (by omega)
   have e:q*(r/s)*s=s*(r/s)*q:=by grind
   omega
  omega
 unfold cmpI
 rcases Int.lt_trichotomy (p/q) (r/s) with g|g|g
 ·rw[if_pos (key hq hs g),if_pos g]
 ·exact(h g).elim
 ·have:=key hs hq g
  rw[if_neg (by omega),if_pos this,if_neg (by omega),if_pos g]
theorem zhv {p q r s:Int} (h:p/q=r/s):cmpI (p*s) (r*q)=cmpI (p%q*s) (r%s*q):=by
 refine zjl ?_
 have d1:=Int.mul_ediv_add_emod p q
 have d2:=Int.mul_ediv_add_emod r s
 rw[h] at d1
 have e1:p*s=(q*(r/s)+p%q)*s:=by rw[d1]
 have e2:r*q=(s*(r/s)+r%s)*q:=by rw[d2]
 rw[e1,e2]
 grind
theorem zhw {x y q s:Int} (hx:0≤x) (hy:0≤y) (hq:0<q) (hs:0<s) (h:x=0∨y=0):cmpI (x*s) (y*q)=cmpI x 0-cmpI y 0:=by
 rcases h with h|h
 ·subst h
  have:=zd4 (a:=0) (b:=y) hq
  rw[Int.zero_mul] at this
  rw[Int.zero_mul,this]
  have e:cmpI 0 0=0:=rfl
  rw[e,ze9 0 y];omega
 ·subst h
  have:=zd4 (a:=x) (b:=0) hs
  rw[Int.zero_mul] at this
  have e:cmpI 0 0=0:=rfl
  rw[Int.zero_mul,this,e];omega
theorem zhx (x y q s:Int):cmpI (x*s) (y*q) = -cmpI (q*y) (s*x):=by
 rw[Int.mul_comm x s,Int.mul_comm y q];exact ze9 _ _
def cmpF (a b:FQ):Int:=cmpI (a.p.v*b.q.v) (b.p.v*a.q.v)
theorem zjk (a b:FQ):cmpF a b=0↔a=b:=by
 have qa:=a.q1
 have qb:=b.q1
 unfold cmpF
 rw[zar]
 constructor
 ·intro h
  obtain⟨x,y⟩:=zcV (by omega) (by omega) a.cop b.cop h
  exact zkI x y
 ·rintro rfl;rfl
end Go.Eng
namespace Go.Eng
def isPR:PV→Bool
 | .p _ _=>true
 | .sl _ _ _ _ _=>true
 | .tu _=>true
 | _=>false
def slotIn3 (E:PEnv) (ops:List XOper) (L:List Nat) (c:Nat×Nat):Bool :=
 match ops[c.1]?,ops[c.2]? with
 | some a,some b =>
  match a.op.looks with
  | .t s=>a.op.cls==2&&L.contains s&&calmOp E b.op
  | _=>false
 | _,_=>false
end Go.Eng
namespace Go.Eng
def apP:PV→PV→Bool
 | .p a _,.p b _ => !(Nat.beq a b)
 | _,_=>false
def slotSt (ops:List XOper) (L R:List Nat) (c:Nat×Nat):Bool :=
 match ops[c.1]?,ops[c.2]? with
 | some a,some b =>
  match a.op,b.op with
  | .load _ _ (.t s),.store _ (.t r) _=>L.contains s&&R.contains r&&fixedX ops c.2 (.t r)
  | _,_=>false
 | _,_=>false
theorem ze1 {E:PEnv} {F:PFin} {ops:List XOper} {chk:List (Nat×Nat)} {ks:List KI} {fr:PFr} {M:PM} (L R:List Nat) (hL:chk.all (fun c=>calmC E ops c || slotIn2 E ops L c || slotSt ops L R c)=true)
  (hr:WL E ⟨(0::0::(L++R)).map XR.tmp,fun w _=>∃l,w=.tu l∧((l.drop 2).take L.length).all (fun x=>isPP x&&((l.drop 2).drop L.length).all (apP x))=true⟩ ops [] fr M) (w:WL E F ops ks fr M):WK E F (.drw ops chk) ks fr M:=by
 refine zb8 (fun fr2 Ms hT=>?_) w
 have hp:∀s∈L,isPP (fr2 s)=true∧∀r∈R,apP (fr2 s) (fr2 r)=true:=by
  obtain⟨lf,q,fr3,M3,vs,e,h1,h2,l,h3,h4⟩:=hr
  simp only[Option.bind_eq_some_iff,unw] at e
  obtain⟨⟨fr4,M4⟩,e1,e2⟩:=e
  simp only[Option.some.injEq,Prod.mk.injEq] at e2
  obtain⟨_,e3,e4⟩:=e2
  rw[←e3,←e4] at h2
  obtain⟨Ms',g1,g2⟩:=zb4 e1
  rw[g1] at hT
  cases hT
  have hres:∀(f:PFr) (N:PM) (l:List Nat),pRes f N (l.map XR.tmp)=some (l.map f):=fun f N l=>by
   induction l with
   | nil=>rfl
   | cons a l ih=>simp only[List.map_cons,pRes,pResOne,ih]
  rw[hres] at h2
  cases h2
  simp only[List.map_cons,packP] at h3
  cases h3
  have h5:(((L++R).map fr2).take L.length).all (fun x=>isPP x&&(((L++R).map fr2).drop L.length).all (apP x))=true:=h4
  rw[List.map_append,List.take_left' (by simp),List.drop_left' (by simp)] at h5
  simp only[List.all_eq_true,List.mem_map,Bool.and_eq_true,forall_exists_index,and_imp,forall_apply_eq_imp_iff₂] at h5
  exact h5
 rw[List.all_eq_true] at hL ⊢
 rintro⟨i,j⟩ hc
 have h1:=hL _ hc
 simp only[Bool.or_eq_true] at h1
 rcases h1 with (h1|h1)|h1
 ·exact zbB hT h1
 ·unfold slotIn2 at h1
  split at h1
  ·rename_i a b ha hb
   split at h1
   ·rename_i z k s hop
    simp only[Bool.and_eq_true] at h1
    obtain⟨c1,c2⟩:=h1
    have hs:=(hp s (List.contains_iff_mem.1 c1)).1
    cases hf:fr2 s with
    | p n o =>
     obtain⟨fri,A,B,q1,q2,q3,q4⟩:=zaO hT ha
     obtain⟨frj,C,D,p1,p2,p3,p4⟩:=zaO hT hb
     have p2':Ms[(i,j).2+1]?=some D:=p2
     have q2':Ms[(i,j).1+1]?=some B:=q2
     simp only[chkP,ha,q1,q2,p1,p2]
     rw[if_neg (by rw[hop];simp[XO.cls])]
     rw[hop]
     show chkV ops j (.t s) C D (fr2 s)=true
     rw[hf]
     show verP (some n) C D=true
     rcases p3 with⟨_,v,p3⟩|⟨_,p3⟩
     ·cases hopb:b.op with
      | call f l =>
       rw[hopb] at p3 c2
       obtain⟨ns,rfl⟩:=zdf c2 p3
       exact zcw ns C _
      | _=>rw[hopb] at c2;simp[calmOp] at c2
     ·rw[p3];simp[verP]
    | _=>rw[hf] at hs;simp[isPP] at hs
   ·cases h1
  ·cases h1
 ·unfold slotSt at h1
  split at h1
  ·rename_i a b ha hb
   split at h1
   ·rename_i z k s n r x hop hop2
    simp only[Bool.and_eq_true] at h1
    obtain⟨⟨c1,c2⟩,c3⟩:=h1
    have hap:=(hp s (List.contains_iff_mem.1 c1)).2 r (List.contains_iff_mem.1 c2)
    obtain⟨fri,A,B,q1,q2,q3,q4⟩:=zaO hT ha
    obtain⟨frj,C,D,p1,p2,p3,p4⟩:=zaO hT hb
    have p2':Ms[(i,j).2+1]?=some D:=p2
    have q2':Ms[(i,j).1+1]?=some B:=q2
    have e2:fr2 r=frj r:=p4 (.t r) c3
    simp only[chkP,ha,q1,q2,p1,p2]
    rw[if_neg (by rw[hop];simp[XO.cls])]
    rw[hop]
    show chkV ops j (.t s) C D (fr2 s)=true
    cases hf:fr2 s with
    | p n1 o1 =>
     cases hg:fr2 r with
     | p n2 o2 =>
      rw[hf,hg] at hap
      have hne:n1≠n2:=fun q=>by rw[q] at hap;simp[apP] at hap
      show verP (some n1) C D=true
      rcases p3 with⟨_,v,p3⟩|⟨_,p3⟩
      ·rw[hop2] at p3
       simp only[XO.pst,XO.pev] at p3
       rw[show X.pv E.glob frj (.t r)=.p n2 o2 from e2.symm.trans hg] at p3
       simp only at p3
       generalize (X.pv E.glob frj x).cells=cs at p3
       split at p3
       ·split at p3
        ·cases p3
         simp only[verP]
         rw[List.getElem?_set_ne (fun h=>hne h.symm)];simp
        ·cases p3
       ·cases p3
      ·rw[p3];simp[verP]
     | _=>rw[hf,hg] at hap;simp[apP] at hap
    | _=>rw[hf] at hap;simp[apP] at hap
   ·cases h1
  ·cases h1
end Go.Eng
namespace Go.Eng
theorem mG (G L:PM) (k:Nat):PM.blk (G++L) (G.length+k)=PM.blk L k:=by
 unfold PM.blk
 rw[List.getElem?_append_right (by omega),Nat.add_sub_cancel_left]
theorem mG0 (G L:PM):PM.blk (G++L) G.length=PM.blk L 0:=mG G L 0
theorem sG (G L:PM) (k:Nat) (v:Option PB):(G++L).set (G.length+k) v=G++L.set k v:=by
 rw[List.set_append_right _ _ (by omega),Nat.add_sub_cancel_left]
theorem sG0 (G L:PM) (v:Option PB):(G++L).set G.length v=G++L.set 0 v:=sG G L 0 v
theorem lG (G L:PM):(G++L).length=G.length+L.length:=List.length_append
theorem zdp (a b:Int) : -1≤cmpI a b∧cmpI a b≤1:=by unfold cmpI;split<;>(try split)<;>omega
theorem zeh (a b:FQ):pf E0 11 [fqP a,fqP b]=some (.i .i64 (cmpF a b)):=by
 have da:=zcZ a
 have db:=zcZ b
 have qa:=a.q1
 have qb:=b.q1
 refine zaf (xf:=zva) rfl (by simp[zva]) ?_
 simp only[zva]
 simp(disch:=omega)only[go_sem,seval,wqq]
 refine ze1 [16,3,20] [5,6] rfl ?_ ?_
 ·simp(disch:=omega)only[go_sem,seval,wqq,da,db]
  exact⟨_,rfl,rfl⟩
 simp(disch:=omega)only[go_sem,seval,wqq,da,db]
 refine zas zww.eq_1 (fun(σ:(WI×WI)×(WI×WI)×Int) fr M=>1≤σ.1.2.v∧1≤σ.2.1.2.v∧(σ.2.2=1∨σ.2.2 = -1)∧σ.2.2*cmpI (σ.1.1.v*σ.2.1.2.v) (σ.2.1.1.v*σ.1.2.v)=cmpF a b ∧
  fr 5=.p 2 0∧fr 6=.p 3 0∧fr 7=.p 4 0∧fr 8=.p 5 0∧fr 9=.i .i64 σ.2.2∧∃b0 b1 v2 v3 v4 v5 G,M=b0::b1::some ⟨(wiP σ.1.1).cells,true,v2⟩::some ⟨(wiP σ.1.2).cells,true,v3⟩::some ⟨(wiP σ.2.1.1).cells,true,v4⟩::some ⟨(wiP σ.2.1.2).cells,true,v5⟩::G)
  (fun σ=>σ.1.2.v.toNat) ?_ ((a.p,a.q),(b.p,b.q),1) ⟨qa,qb,.inl rfl,Int.one_mul _,by simp only[go_sem,seval],by simp only[go_sem,seval],by simp only[go_sem,seval],by simp only[go_sem,seval],by simp only[go_sem,seval],_,_,_,_,_,_,[],rfl⟩
 rintro⟨⟨p,q⟩,⟨r,s⟩,g⟩ fr M ⟨hq,hs,hg,hc,h5,h6,h7,h8,h9,b0,b1,v2,v3,v4,v5,G,rfl⟩ ih
 simp only at hq hs hg hc h5 h6 h7 h8 h9
 have d1:=zio p q (by omega)
 have d2:=zio r s (by omega)
 have xv:(p.div q (by omega)).v=p.v/q.v:=rfl
 have ev:(p.mod q (by omega)).v=p.v%q.v:=rfl
 have yv:(r.div s (by omega)).v=r.v/s.v:=rfl
 have ov:(r.mod s (by omega)).v=r.v%s.v:=rfl
 have e0:=Int.emod_nonneg p.v (show q.v≠0 by omega)
 have o0:=Int.emod_nonneg r.v (show s.v≠0 by omega)
 have e1:=Int.emod_lt_of_pos p.v (show 0<q.v by omega)
 rw[←ev] at e0 e1
 rw[←ov] at o0
 have s1:=zhu (p:=p.v) (q:=q.v) (r:=r.v) (s:=s.v) (by omega) (by omega)
 have s2:=zhv (p:=p.v) (q:=q.v) (r:=r.v) (s:=s.v)
 rw[←xv,←yv] at s1
 rw[←xv,←yv,←ev,←ov] at s2
 generalize p.div q (by omega)=x at *
 generalize p.mod q (by omega)=e at *
 generalize r.div s (by omega)=y at *
 generalize r.mod s (by omega)=o at *
 have c1:=zci x y
 have g1:=zaN e
 have g2:=zaN o
 have r1:=zdp x.v y.v
 have r2:=zdp e.v 0
 have r3:=zdp o.v 0
 by_cases hxy:x.v=y.v
 ·have t0:(cmpI x.v y.v=0)=True:=by rw[zar];simp[hxy]
  have hb:=s2 hxy
  by_cases hz:e.v=0∨o.v=0
  ·rw[zhw (by omega) (by omega) (by omega) (by omega) hz] at hb
   have hm:cmpF a b=g*(cmpI e.v 0-cmpI o.v 0):=by rw[←hc,hb]
   have hl : -2≤g*(cmpI e.v 0-cmpI o.v 0)∧g*(cmpI e.v 0-cmpI o.v 0)≤2:=by rcases hg with rfl|rfl<;>omega
   rw[hm]
   by_cases he:e.v=0
   ·have t1:(cmpI e.v 0=0)=True:=by rw[zar];simp[he]
    simp(disch:=omega)only[go_sem,seval,wqq,h5,h6,h7,h8,h9,d1,d2,mG,mG0,sG,sG0,lG,lqq,c1,g1,g2,t0,t1]
    refine zak [14] rfl (by simp only[go_sem,seval]) ?_
    simp(disch:=omega)only[go_sem,seval,wqq,h5,h6,h7,h8,h9,d1,d2,mG,mG0,sG,sG0,lG,lqq,c1,g1,g2]
   ·have t1:(cmpI e.v 0=0)=False:=by rw[zar];simp[he]
    have t2:(cmpI o.v 0=0)=True:=by rw[zar];simp;omega
    simp(disch:=omega)only[go_sem,seval,wqq,h5,h6,h7,h8,h9,d1,d2,mG,mG0,sG,sG0,lG,lqq,c1,g1,g2,t0,t1,t2]
    refine zak [14] rfl (by simp only[go_sem,seval]) ?_
    simp(disch:=omega)only[go_sem,seval,wqq,h5,h6,h7,h8,h9,d1,d2,mG,mG0,sG,sG0,lG,lqq,c1,g1,g2]
  ·have t1:(cmpI e.v 0=0)=False:=by rw[zar];simp;omega
   have t2:(cmpI o.v 0=0)=False:=by rw[zar];simp;omega
   have n0 : -1≤g∧g≤1:=by omega
   rw[zhx e.v o.v q.v s.v] at hb
   simp(disch:=omega)only[go_sem,seval,wqq,h5,h6,h7,h8,h9,d1,d2,mG,mG0,sG,sG0,lG,lqq,c1,g1,g2,t0,t1,t2]
   refine ze1 [11,8,14] [5,6,7] rfl ?_ ?_
   ·simp(disch:=omega)only[go_sem,seval,wqq,h5,h6,h7,h8,h9,d1,d2,mG,mG0,sG,sG0,lG,lqq]
    exact⟨_,rfl,rfl⟩
   simp(disch:=omega)only[go_sem,seval,wqq,h5,h6,h7,h8,h9,d1,d2,mG,mG0,sG,sG0,lG,lqq]
   exact ih ((q,e),(s,o),0-g) _ _ (by simp only;omega) ⟨by simp only;omega,by simp only;omega,by simp only;omega,by simp only;rw[←hc,hb];grind,by simp only[go_sem,seval,h5],by simp only[go_sem,seval,h6],by simp only[go_sem,seval,h7],by simp only[go_sem,seval,h8],by simp only[go_sem,seval],_,_,_,_,_,_,_,rfl⟩
 ·have t0:(cmpI x.v y.v=0)=False:=by rw[zar];simp[hxy]
  have hb:=s1 hxy
  have hm:cmpF a b=g*cmpI x.v y.v:=by rw[←hc,hb]
  have hl : -2≤g*cmpI x.v y.v∧g*cmpI x.v y.v≤2:=by rcases hg with rfl|rfl<;>omega
  rw[hm]
  simp(disch:=omega)only[go_sem,seval,wqq,h5,h6,h7,h8,h9,d1,d2,mG,mG0,sG,sG0,lG,lqq,c1,t0]
end Go.Eng
namespace Go.Eng
theorem zdZ (p:Prop):(p=True)∨(p=False):=by by_cases h:p<;>simp[h]
noncomputable def tW (a b:WI):WI:=clip (a.v*b.v)
noncomputable def aW (a b:WI):WI:=clip (a.v+b.v)
noncomputable def sW (a b:WI):WI:=clip (a.v-b.v)
theorem zai (a b:WI):pf E0 313 [wiP a,wiP b]=some (wiP (tW a b)):=by
 have h:=zit a b
 unfold tW
 generalize clip (a.v*b.v)=c at *
 refine zaf (xf:=zvE) rfl (by simp[zvE]) ?_
 simp only[zvE]
 simp(disch:=omega)only[go_sem,seval,wqq,h]
theorem zaz (a b:WI):pf E0 312 [wiP a,wiP b]=some (wiP (aW a b)):=by
 have h:=zjP a b
 unfold aW
 generalize clip (a.v+b.v)=c at *
 refine zaf (xf:=zvQ) rfl (by simp[zvQ]) ?_
 simp only[zvQ]
 simp(disch:=omega)only[go_sem,seval,wqq,h]
theorem zbp (a b:WI):pf E0 319 [wiP a,wiP b]=some (wiP (sW a b)):=by
 have h:=zma a b
 unfold sW
 generalize clip (a.v-b.v)=c at *
 refine zaf (xf:=zvH) rfl (by simp[zvH]) ?_
 simp only[zvH]
 simp(disch:=omega)only[go_sem,seval,wqq,h]
noncomputable def mnW (x:Nat→WI) (i k:Nat):WI:=sW (tW (x (3*((i+1)%3)+(k+1)%3)) (x (3*((i+2)%3)+(k+2)%3))) (tW (x (3*((i+1)%3)+(k+2)%3)) (x (3*((i+2)%3)+(k+1)%3)))
theorem zmg (x:Nat→WI) {i k:Nat} (hi:i<3) (hk:k<3) (b:Option PB) (G:PM):∃G',pcl E0 318 [.i .i64 (i:Int),.i .i64 (k:Int),.p 0 0] (some ⟨cW x,true,0⟩::b::G)=some (wiP (mnW x i k),some ⟨cW x,true,0⟩::b::(G++G')):=by
 obtain rfl|rfl|rfl:=zdi hi<;>obtain rfl|rfl|rfl:=zdi hk
 ·have t1:=zai (x 4) (x 8)
  have t2:=zai (x 5) (x 7)
  have t3:=zbp (tW (x 4) (x 8)) (tW (x 5) (x 7))
  refine⟨[some ⟨[.b (decide ((sW (tW (x 4) (x 8)) (tW (x 5) (x 7))).v<0)),D (sW (tW (x 4) (x 8)) (tW (x 5) (x 7))).v.natAbs],true,1⟩],?_⟩
  show pcl E0 318 [.i .i64 0,.i .i64 0,.p 0 0] (some ⟨cW x,true,0⟩::b::G)=some (wiP (sW (tW (x 4) (x 8)) (tW (x 5) (x 7))),some ⟨cW x,true,0⟩::b::(G++[some ⟨[.b (decide ((sW (tW (x 4) (x 8)) (tW (x 5) (x 7))).v<0)),D (sW (tW (x 4) (x 8)) (tW (x 5) (x 7))).v.natAbs],true,1⟩]))
  refine zbx (xf:=zuy) rfl rfl (by simp[zuy]) ?_
  simp only[zuy]
  simp(disch:=omega)only[go_sem,seval,wqq]
  refine zah [39,45] rfl ?_ ?_
  ·simp(disch:=omega)only[go_sem,seval,wqq,zad,t1,t2,t3,mG,mG0,sG,sG0,lG,lqq]
   exact⟨_,rfl,rfl⟩
  simp(disch:=omega)only[go_sem,seval,wqq,zad,t1,t2,t3,mG,mG0,sG,sG0,lG,lqq]
 ·have t1:=zai (x 5) (x 6)
  have t2:=zai (x 3) (x 8)
  have t3:=zbp (tW (x 5) (x 6)) (tW (x 3) (x 8))
  refine⟨[some ⟨[.b (decide ((sW (tW (x 5) (x 6)) (tW (x 3) (x 8))).v<0)),D (sW (tW (x 5) (x 6)) (tW (x 3) (x 8))).v.natAbs],true,1⟩],?_⟩
  show pcl E0 318 [.i .i64 0,.i .i64 1,.p 0 0] (some ⟨cW x,true,0⟩::b::G)=some (wiP (sW (tW (x 5) (x 6)) (tW (x 3) (x 8))),some ⟨cW x,true,0⟩::b::(G++[some ⟨[.b (decide ((sW (tW (x 5) (x 6)) (tW (x 3) (x 8))).v<0)),D (sW (tW (x 5) (x 6)) (tW (x 3) (x 8))).v.natAbs],true,1⟩]))
  refine zbx (xf:=zuy) rfl rfl (by simp[zuy]) ?_
  simp only[zuy]
  simp(disch:=omega)only[go_sem,seval,wqq]
  refine zah [39,45] rfl ?_ ?_
  ·simp(disch:=omega)only[go_sem,seval,wqq,zad,t1,t2,t3,mG,mG0,sG,sG0,lG,lqq]
   exact⟨_,rfl,rfl⟩
  simp(disch:=omega)only[go_sem,seval,wqq,zad,t1,t2,t3,mG,mG0,sG,sG0,lG,lqq]
 ·have t1:=zai (x 3) (x 7)
  have t2:=zai (x 4) (x 6)
  have t3:=zbp (tW (x 3) (x 7)) (tW (x 4) (x 6))
  refine⟨[some ⟨[.b (decide ((sW (tW (x 3) (x 7)) (tW (x 4) (x 6))).v<0)),D (sW (tW (x 3) (x 7)) (tW (x 4) (x 6))).v.natAbs],true,1⟩],?_⟩
  show pcl E0 318 [.i .i64 0,.i .i64 2,.p 0 0] (some ⟨cW x,true,0⟩::b::G)=some (wiP (sW (tW (x 3) (x 7)) (tW (x 4) (x 6))),some ⟨cW x,true,0⟩::b::(G++[some ⟨[.b (decide ((sW (tW (x 3) (x 7)) (tW (x 4) (x 6))).v<0)),D (sW (tW (x 3) (x 7)) (tW (x 4) (x 6))).v.natAbs],true,1⟩]))
  refine zbx (xf:=zuy) rfl rfl (by simp[zuy]) ?_
  simp only[zuy]
  simp(disch:=omega)only[go_sem,seval,wqq]
  refine zah [39,45] rfl ?_ ?_
  ·simp(disch:=omega)only[go_sem,seval,wqq,zad,t1,t2,t3,mG,mG0,sG,sG0,lG,lqq]
   exact⟨_,rfl,rfl⟩
  simp(disch:=omega)only[go_sem,seval,wqq,zad,t1,t2,t3,mG,mG0,sG,sG0,lG,lqq]
 ·have t1:=zai (x 7) (x 2)
  have t2:=zai (x 8) (x 1)
  have t3:=zbp (tW (x 7) (x 2)) (tW (x 8) (x 1))
  refine⟨[some ⟨[.b (decide ((sW (tW (x 7) (x 2)) (tW (x 8) (x 1))).v<0)),D (sW (tW (x 7) (x 2)) (tW (x 8) (x 1))).v.natAbs],true,1⟩],?_⟩
  show pcl E0 318 [.i .i64 1,.i .i64 0,.p 0 0] (some ⟨cW x,true,0⟩::b::G)=some (wiP (sW (tW (x 7) (x 2)) (tW (x 8) (x 1))),some ⟨cW x,true,0⟩::b::(G++[some ⟨[.b (decide ((sW (tW (x 7) (x 2)) (tW (x 8) (x 1))).v<0)),D (sW (tW (x 7) (x 2)) (tW (x 8) (x 1))).v.natAbs],true,1⟩]))
  refine zbx (xf:=zuy) rfl rfl (by simp[zuy]) ?_
  simp only[zuy]
  simp(disch:=omega)only[go_sem,seval,wqq]
  refine zah [39,45] rfl ?_ ?_
  ·simp(disch:=omega)only[go_sem,seval,wqq,zad,t1,t2,t3,mG,mG0,sG,sG0,lG,lqq]
   exact⟨_,rfl,rfl⟩
  simp(disch:=omega)only[go_sem,seval,wqq,zad,t1,t2,t3,mG,mG0,sG,sG0,lG,lqq]
 ·have t1:=zai (x 8) (x 0)
  have t2:=zai (x 6) (x 2)
  have t3:=zbp (tW (x 8) (x 0)) (tW (x 6) (x 2))
  refine⟨[some ⟨[.b (decide ((sW (tW (x 8) (x 0)) (tW (x 6) (x 2))).v<0)),D (sW (tW (x 8) (x 0)) (tW (x 6) (x 2))).v.natAbs],true,1⟩],?_⟩
  show pcl E0 318 [.i .i64 1,.i .i64 1,.p 0 0] (some ⟨cW x,true,0⟩::b::G)=some (wiP (sW (tW (x 8) (x 0)) (tW (x 6) (x 2))),some ⟨cW x,true,0⟩::b::(G++[some ⟨[.b (decide ((sW (tW (x 8) (x 0)) (tW (x 6) (x 2))).v<0)),D (sW (tW (x 8) (x 0)) (tW (x 6) (x 2))).v.natAbs],true,1⟩]))
  refine zbx (xf:=zuy) rfl rfl (by simp[zuy]) ?_
  simp only[zuy]
  simp(disch:=omega)only[go_sem,seval,wqq]
  refine zah [39,45] rfl ?_ ?_
  ·simp(disch:=omega)only[go_sem,seval,wqq,zad,t1,t2,t3,mG,mG0,sG,sG0,lG,lqq]
   exact⟨_,rfl,rfl⟩
  simp(disch:=omega)only[go_sem,seval,wqq,zad,t1,t2,t3,mG,mG0,sG,sG0,lG,lqq]
 ·have t1:=zai (x 6) (x 1)
  have t2:=zai (x 7) (x 0)
  have t3:=zbp (tW (x 6) (x 1)) (tW (x 7) (x 0))
  refine⟨[some ⟨[.b (decide ((sW (tW (x 6) (x 1)) (tW (x 7) (x 0))).v<0)),D (sW (tW (x 6) (x 1)) (tW (x 7) (x 0))).v.natAbs],true,1⟩],?_⟩
  show pcl E0 318 [.i .i64 1,.i .i64 2,.p 0 0] (some ⟨cW x,true,0⟩::b::G)=some (wiP (sW (tW (x 6) (x 1)) (tW (x 7) (x 0))),some ⟨cW x,true,0⟩::b::(G++[some ⟨[.b (decide ((sW (tW (x 6) (x 1)) (tW (x 7) (x 0))).v<0)),D (sW (tW (x 6) (x 1)) (tW (x 7) (x 0))).v.natAbs],true,1⟩]))
  refine zbx (xf:=zuy) rfl rfl (by simp[zuy]) ?_
  simp only[zuy]
  simp(disch:=omega)only[go_sem,seval,wqq]
  refine zah [39,45] rfl ?_ ?_
  ·simp(disch:=omega)only[go_sem,seval,wqq,zad,t1,t2,t3,mG,mG0,sG,sG0,lG,lqq]
   exact⟨_,rfl,rfl⟩
  simp(disch:=omega)only[go_sem,seval,wqq,zad,t1,t2,t3,mG,mG0,sG,sG0,lG,lqq]
 ·have t1:=zai (x 1) (x 5)
  have t2:=zai (x 2) (x 4)
  have t3:=zbp (tW (x 1) (x 5)) (tW (x 2) (x 4))
  refine⟨[some ⟨[.b (decide ((sW (tW (x 1) (x 5)) (tW (x 2) (x 4))).v<0)),D (sW (tW (x 1) (x 5)) (tW (x 2) (x 4))).v.natAbs],true,1⟩],?_⟩
  show pcl E0 318 [.i .i64 2,.i .i64 0,.p 0 0] (some ⟨cW x,true,0⟩::b::G)=some (wiP (sW (tW (x 1) (x 5)) (tW (x 2) (x 4))),some ⟨cW x,true,0⟩::b::(G++[some ⟨[.b (decide ((sW (tW (x 1) (x 5)) (tW (x 2) (x 4))).v<0)),D (sW (tW (x 1) (x 5)) (tW (x 2) (x 4))).v.natAbs],true,1⟩]))
  refine zbx (xf:=zuy) rfl rfl (by simp[zuy]) ?_
  simp only[zuy]
  simp(disch:=omega)only[go_sem,seval,wqq]
  refine zah [39,45] rfl ?_ ?_
  ·simp(disch:=omega)only[go_sem,seval,wqq,zad,t1,t2,t3,mG,mG0,sG,sG0,lG,lqq]
   exact⟨_,rfl,rfl⟩
  simp(disch:=omega)only[go_sem,seval,wqq,zad,t1,t2,t3,mG,mG0,sG,sG0,lG,lqq]
 ·have t1:=zai (x 2) (x 3)
  have t2:=zai (x 0) (x 5)
  have t3:=zbp (tW (x 2) (x 3)) (tW (x 0) (x 5))
  refine⟨[some ⟨[.b (decide ((sW (tW (x 2) (x 3)) (tW (x 0) (x 5))).v<0)),D (sW (tW (x 2) (x 3)) (tW (x 0) (x 5))).v.natAbs],true,1⟩],?_⟩
  show pcl E0 318 [.i .i64 2,.i .i64 1,.p 0 0] (some ⟨cW x,true,0⟩::b::G)=some (wiP (sW (tW (x 2) (x 3)) (tW (x 0) (x 5))),some ⟨cW x,true,0⟩::b::(G++[some ⟨[.b (decide ((sW (tW (x 2) (x 3)) (tW (x 0) (x 5))).v<0)),D (sW (tW (x 2) (x 3)) (tW (x 0) (x 5))).v.natAbs],true,1⟩]))
  refine zbx (xf:=zuy) rfl rfl (by simp[zuy]) ?_
  simp only[zuy]
  simp(disch:=omega)only[go_sem,seval,wqq]
  refine zah [39,45] rfl ?_ ?_
  ·simp(disch:=omega)only[go_sem,seval,wqq,zad,t1,t2,t3,mG,mG0,sG,sG0,lG,lqq]
   exact⟨_,rfl,rfl⟩
  simp(disch:=omega)only[go_sem,seval,wqq,zad,t1,t2,t3,mG,mG0,sG,sG0,lG,lqq]
 ·have t1:=zai (x 0) (x 4)
  have t2:=zai (x 1) (x 3)
  have t3:=zbp (tW (x 0) (x 4)) (tW (x 1) (x 3))
  refine⟨[some ⟨[.b (decide ((sW (tW (x 0) (x 4)) (tW (x 1) (x 3))).v<0)),D (sW (tW (x 0) (x 4)) (tW (x 1) (x 3))).v.natAbs],true,1⟩],?_⟩
  show pcl E0 318 [.i .i64 2,.i .i64 2,.p 0 0] (some ⟨cW x,true,0⟩::b::G)=some (wiP (sW (tW (x 0) (x 4)) (tW (x 1) (x 3))),some ⟨cW x,true,0⟩::b::(G++[some ⟨[.b (decide ((sW (tW (x 0) (x 4)) (tW (x 1) (x 3))).v<0)),D (sW (tW (x 0) (x 4)) (tW (x 1) (x 3))).v.natAbs],true,1⟩]))
  refine zbx (xf:=zuy) rfl rfl (by simp[zuy]) ?_
  simp only[zuy]
  simp(disch:=omega)only[go_sem,seval,wqq]
  refine zah [39,45] rfl ?_ ?_
  ·simp(disch:=omega)only[go_sem,seval,wqq,zad,t1,t2,t3,mG,mG0,sG,sG0,lG,lqq]
   exact⟨_,rfl,rfl⟩
  simp(disch:=omega)only[go_sem,seval,wqq,zad,t1,t2,t3,mG,mG0,sG,sG0,lG,lqq]
noncomputable def adW (x:Nat→WI):Nat→WI:=fun e=>mnW x (e%3) (e/3)
end Go.Eng
namespace Go.Eng
noncomputable def cS (s:Nat→Bool) (w:Nat→WI):List PV:=[if s 0 then .b (decide ((w 0).v<0)) else .b false,if s 0 then D (w 0).v.natAbs else .nl,if s 1 then .b (decide ((w 1).v<0)) else .b false,if s 1 then D (w 1).v.natAbs else .nl,if s 2 then .b (decide ((w 2).v<0)) else .b false,if s 2 then D (w 2).v.natAbs else .nl,if s 3 then .b (decide ((w 3).v<0)) else .b false,if s 3 then D (w 3).v.natAbs else .nl,if s 4 then .b (decide ((w 4).v<0)) else .b false,if s 4 then D (w 4).v.natAbs else .nl,if s 5 then .b (decide ((w 5).v<0)) else .b false,if s 5 then D (w 5).v.natAbs else .nl,if s 6 then .b (decide ((w 6).v<0)) else .b false,if s 6 then D (w 6).v.natAbs else .nl,if s 7 then .b (decide ((w 7).v<0)) else .b false,if s 7 then D (w 7).v.natAbs else .nl,if s 8 then .b (decide ((w 8).v<0)) else .b false,if s 8 then D (w 8).v.natAbs else .nl]
theorem zap (s:Nat→Bool) (w:Nat→WI):cS s w=[if s 0 then .b (decide ((w 0).v<0)) else .b false,if s 0 then D (w 0).v.natAbs else .nl,if s 1 then .b (decide ((w 1).v<0)) else .b false,if s 1 then D (w 1).v.natAbs else .nl,if s 2 then .b (decide ((w 2).v<0)) else .b false,if s 2 then D (w 2).v.natAbs else .nl,if s 3 then .b (decide ((w 3).v<0)) else .b false,if s 3 then D (w 3).v.natAbs else .nl,if s 4 then .b (decide ((w 4).v<0)) else .b false,if s 4 then D (w 4).v.natAbs else .nl,if s 5 then .b (decide ((w 5).v<0)) else .b false,if s 5 then D (w 5).v.natAbs else .nl,if s 6 then .b (decide ((w 6).v<0)) else .b false,if s 6 then D (w 6).v.natAbs else .nl,if s 7 then .b (decide ((w 7).v<0)) else .b false,if s 7 then D (w 7).v.natAbs else .nl,if s 8 then .b (decide ((w 8).v<0)) else .b false,if s 8 then D (w 8).v.natAbs else .nl]:=_root_.id rfl
@[go_sem] theorem ztQ (s:Nat→Bool) (w:Nat→WI):(cS s w).length=18:=_root_.id rfl
def sA (n:Nat):Nat→Bool:=fun e=>decide (3*(e%3)+e/3<n)
set_option maxHeartbeats 2000000 in
theorem zmb (x:Nat→WI):pf E0 311 [mW x]=some (mW (adW x)):=by
 refine zaf (xf:=zu9) rfl (by simp[zu9]) ?_
 simp only[zu9]
 simp(disch:=omega)only[go_sem,seval,wqq]
 refine zas zwC.eq_1 (fun(i:Nat) fr M=>i≤3∧fr 2=.p 1 0∧fr 3=.fn 318 [.p 0 0]∧fr 4=.p 2 0∧fr 8=(PV.i .i64 ((i:Nat):Int))∧∃b v G,M=some ⟨cW x,true,0⟩::some ⟨cP 0 zW,true,b⟩::some ⟨cS (sA (3*i)) (adW x),true,v⟩::G) (fun i=>3-i) ?_ 0 ⟨by omega,by simp only[go_sem,seval],by simp only[go_sem,seval],by simp only[go_sem,seval],by simp only[go_sem,seval],_,_,_,rfl⟩
 rintro i fr M ⟨hi,f2,f3,f4,f8,b,v,G,rfl⟩ ih
 rcases Nat.lt_or_ge i 3 with h3|h3
 ·have q1:((i:Int)<3)=True:=eq_true (by omega)
  simp(disch:=omega)only[go_sem,seval,wqq,f2,f3,f4,f8,q1]
  refine zas zwz.eq_1 (fun(k:Nat) fr M=>k≤3∧fr 2=.p 1 0∧fr 3=.fn 318 [.p 0 0]∧fr 4=.p 2 0∧fr 8=(PV.i .i64 ((i:Nat):Int))∧fr 5=(PV.i .i64 ((i:Nat):Int))∧fr 11=(PV.i .i64 ((k:Nat):Int))∧∃b v G,M=some ⟨cW x,true,0⟩::some ⟨cP 0 zW,true,b⟩::some ⟨cS (sA (3*i+k)) (adW x),true,v⟩::G) (fun k=>3-k) ?_ 0 ⟨by omega,by simp only[go_sem,seval,f2],by simp only[go_sem,seval,f3],by simp only[go_sem,seval,f4],by simp only[go_sem,seval,f8],by simp only[go_sem,seval],by simp only[go_sem,seval],_,_,_,rfl⟩
  rintro k fr M ⟨hk,f2,f3,f4,f8,f5,f11,b,v,G,rfl⟩ ih2
  rcases Nat.lt_or_ge k 3 with h4|h4
  ·obtain⟨G',mn⟩:=zmg x h3 h4 (some ⟨cP 0 zW,true,b⟩) (some ⟨cS (sA (3*i+k)) (adW x),true,v⟩::G)
   have q2:((k:Int)<3)=True:=eq_true (by omega)
   obtain rfl|rfl|rfl:=zdi h3<;>obtain rfl|rfl|rfl:=zdi h4
   ·have mn:pcl E0 318 [.i .i64 0,.i .i64 0,.p 0 0] _=_:=mn
    simp(disch:=omega)only[go_sem,seval,wqq,f2,f3,f4,f8,f5,f11,mn]
    exact ih2 1 _ _ (by omega) ⟨by omega,by simp only[go_sem,seval,f2],by simp only[go_sem,seval,f3],by simp only[go_sem,seval,f4],by simp only[go_sem,seval,f8],by simp only[go_sem,seval,f5],by simp only[go_sem,seval],_,_,_,rfl⟩
   ·have mn:pcl E0 318 [.i .i64 0,.i .i64 1,.p 0 0] _=_:=mn
    simp(disch:=omega)only[go_sem,seval,wqq,f2,f3,f4,f8,f5,f11,mn]
    exact ih2 2 _ _ (by omega) ⟨by omega,by simp only[go_sem,seval,f2],by simp only[go_sem,seval,f3],by simp only[go_sem,seval,f4],by simp only[go_sem,seval,f8],by simp only[go_sem,seval,f5],by simp only[go_sem,seval],_,_,_,rfl⟩
   ·have mn:pcl E0 318 [.i .i64 0,.i .i64 2,.p 0 0] _=_:=mn
    simp(disch:=omega)only[go_sem,seval,wqq,f2,f3,f4,f8,f5,f11,mn]
    exact ih2 3 _ _ (by omega) ⟨by omega,by simp only[go_sem,seval,f2],by simp only[go_sem,seval,f3],by simp only[go_sem,seval,f4],by simp only[go_sem,seval,f8],by simp only[go_sem,seval,f5],by simp only[go_sem,seval],_,_,_,rfl⟩
   ·have mn:pcl E0 318 [.i .i64 1,.i .i64 0,.p 0 0] _=_:=mn
    simp(disch:=omega)only[go_sem,seval,wqq,f2,f3,f4,f8,f5,f11,mn]
    exact ih2 1 _ _ (by omega) ⟨by omega,by simp only[go_sem,seval,f2],by simp only[go_sem,seval,f3],by simp only[go_sem,seval,f4],by simp only[go_sem,seval,f8],by simp only[go_sem,seval,f5],by simp only[go_sem,seval],_,_,_,rfl⟩
   ·have mn:pcl E0 318 [.i .i64 1,.i .i64 1,.p 0 0] _=_:=mn
    simp(disch:=omega)only[go_sem,seval,wqq,f2,f3,f4,f8,f5,f11,mn]
    exact ih2 2 _ _ (by omega) ⟨by omega,by simp only[go_sem,seval,f2],by simp only[go_sem,seval,f3],by simp only[go_sem,seval,f4],by simp only[go_sem,seval,f8],by simp only[go_sem,seval,f5],by simp only[go_sem,seval],_,_,_,rfl⟩
   ·have mn:pcl E0 318 [.i .i64 1,.i .i64 2,.p 0 0] _=_:=mn
    simp(disch:=omega)only[go_sem,seval,wqq,f2,f3,f4,f8,f5,f11,mn]
    exact ih2 3 _ _ (by omega) ⟨by omega,by simp only[go_sem,seval,f2],by simp only[go_sem,seval,f3],by simp only[go_sem,seval,f4],by simp only[go_sem,seval,f8],by simp only[go_sem,seval,f5],by simp only[go_sem,seval],_,_,_,rfl⟩
   ·have mn:pcl E0 318 [.i .i64 2,.i .i64 0,.p 0 0] _=_:=mn
    simp(disch:=omega)only[go_sem,seval,wqq,f2,f3,f4,f8,f5,f11,mn]
    exact ih2 1 _ _ (by omega) ⟨by omega,by simp only[go_sem,seval,f2],by simp only[go_sem,seval,f3],by simp only[go_sem,seval,f4],by simp only[go_sem,seval,f8],by simp only[go_sem,seval,f5],by simp only[go_sem,seval],_,_,_,rfl⟩
   ·have mn:pcl E0 318 [.i .i64 2,.i .i64 1,.p 0 0] _=_:=mn
    simp(disch:=omega)only[go_sem,seval,wqq,f2,f3,f4,f8,f5,f11,mn]
    exact ih2 2 _ _ (by omega) ⟨by omega,by simp only[go_sem,seval,f2],by simp only[go_sem,seval,f3],by simp only[go_sem,seval,f4],by simp only[go_sem,seval,f8],by simp only[go_sem,seval,f5],by simp only[go_sem,seval],_,_,_,rfl⟩
   ·have mn:pcl E0 318 [.i .i64 2,.i .i64 2,.p 0 0] _=_:=mn
    simp(disch:=omega)only[go_sem,seval,wqq,f2,f3,f4,f8,f5,f11,mn]
    exact ih2 3 _ _ (by omega) ⟨by omega,by simp only[go_sem,seval,f2],by simp only[go_sem,seval,f3],by simp only[go_sem,seval,f4],by simp only[go_sem,seval,f8],by simp only[go_sem,seval,f5],by simp only[go_sem,seval],_,_,_,rfl⟩
  ·obtain rfl:k=3:=by omega
   simp(disch:=omega)only[go_sem,seval,wqq,f2,f3,f4,f8,f5,f11]
   exact ih (i+1) _ _ (by omega) ⟨by omega,by simp only[go_sem,seval,f2],by simp only[go_sem,seval,f3],by simp only[go_sem,seval,f4],by simp only[go_sem,seval];rw[Int.natCast_succ],b,v,G,rfl⟩
 ·obtain rfl:i=3:=by omega
  have c9:cS (sA (3*3)) (adW x)=cW (adW x):=rfl
  simp(disch:=omega)only[go_sem,seval,wqq,f2,f3,f4,f8,c9]
noncomputable def dtW (x:Nat→WI):WI:=aW (aW (tW (x 0) (adW x 0)) (tW (x 1) (adW x 3))) (tW (x 2) (adW x 6))
theorem zbc (x:Nat→WI):pf E0 306 [mW x]=some (wiP (dtW x)):=by
 have ha:=zmb x
 unfold dtW
 generalize adW x=a at *
 have t1:=zai (x 0) (a 0)
 have t2:=zai (x 1) (a 3)
 have t3:=zai (x 2) (a 6)
 generalize tW (x 0) (a 0)=u1 at *
 generalize tW (x 1) (a 3)=u2 at *
 generalize tW (x 2) (a 6)=u3 at *
 have t4:=zaz u1 u2
 generalize aW u1 u2=u4 at *
 have t5:=zaz u4 u3
 refine zaf (xf:=zv7) rfl (by simp[zv7]) ?_
 simp only[zv7]
 simp(disch:=omega)only[go_sem,seval,wqq,ha]
 refine zah [11,13,17,19] rfl ?_ ?_
 ·simp(disch:=omega)only[go_sem,seval,wqq,zad,t1,t2,t3,t4,t5]
  exact⟨_,rfl,rfl⟩
 simp(disch:=omega)only[go_sem,seval,wqq,zad,t1,t2,t3,t4,t5]
def okP (p:Nat→Int):Prop:=∀e,e<9 → -1073741824≤p e∧p e≤1073741824
open Classical in
noncomputable def vlP (p:Nat→Int):Int:=if okP p then (if (dtW (ofW p)).v=0 then 10 else 0) else 1
set_option maxHeartbeats 2000000 in
theorem zc1 {p:Nat→Int} (hp:∀e,Fits64 (p e)):pf E0 302 [pI p]=some (.i .i64 (vlP p)):=by
 have hm:=zmh hp
 have hd:=zbc (ofW p)
 have sg:=zaN (dtW (ofW p))
 have bad:∀e,e<9→¬(-1073741824≤p e∧p e≤1073741824)→vlP p=1:=fun e he h=>by unfold vlP;rw[if_neg fun q=>h (q e he)]
 have good:okP p→vlP p=if (dtW (ofW p)).v=0 then 10 else 0:=fun h=>by unfold vlP;rw[if_pos h]
 generalize vlP p=V at *
 generalize dtW (ofW p)=dt at *
 refine zaf (xf:=zvG) rfl (by simp[zvG]) ?_
 simp only[zvG]
 simp(disch:=omega)only[go_sem,seval,wqq]
 refine zas zwP.eq_1 (fun(i:Nat) fr M=>i≤9∧(∀e,e<i → -1073741824≤p e∧p e≤1073741824)∧fr 1=.p 0 0∧fr 6=pI p∧fr 7=(PV.i .i64 ((i:Nat):Int))∧M=[some ⟨cI p,true,0⟩]) (fun i=>9-i) ?_ 0 ⟨by omega,fun e he=>by omega,by simp only[go_sem,seval],by simp only[go_sem,seval],by simp only[go_sem,seval],rfl⟩
 rintro i fr M ⟨hi,hlo,f1,f6,f7,rfl⟩ ih
 rcases Nat.lt_or_ge i 9 with h9|h9
 ·have nxt:∀j,(-1073741824≤p j∧p j≤1073741824)→j=i→∀e,e<j+1 → -1073741824≤p e∧p e≤1073741824:=fun j hj hji e he=>by
   subst hji
   rcases Nat.lt_or_ge e j with h|h
   ·exact hlo e h
   ·obtain rfl:e=j:=by omega
    exact hj
  obtain rfl|rfl|rfl|rfl|rfl|rfl|rfl|rfl|rfl:=zdc h9
  ·have hpe:=hp 0
   unfold Fits64 at hpe
   rcases zdZ (p 0 < -1073741824) with t1|t1
   ·rw[bad 0 (by decide) (by have:=of_eq_true t1;omega)]
    simp(disch:=omega)only[go_sem,seval,wqq,f1,f6,f7,pI,zay,t1]
   ·rcases zdZ (p 0>1073741824) with t2|t2
    ·rw[bad 0 (by decide) (by have:=of_eq_true t2;omega)]
     simp(disch:=omega)only[go_sem,seval,wqq,f1,f6,f7,pI,zay,t1,t2]
    ·have u1:=of_eq_false t1
     have u2:=of_eq_false t2
     simp(disch:=omega)only[go_sem,seval,wqq,f1,f6,f7,pI,zay,t1,t2]
     exact ih 1 _ _ (by omega) ⟨by omega,nxt 0 (by omega) rfl,by simp only[go_sem,seval,f1],by simp only[go_sem,seval,f6],by simp only[go_sem,seval],rfl⟩
  ·have hpe:=hp 1
   unfold Fits64 at hpe
   rcases zdZ (p 1 < -1073741824) with t1|t1
   ·rw[bad 1 (by decide) (by have:=of_eq_true t1;omega)]
    simp(disch:=omega)only[go_sem,seval,wqq,f1,f6,f7,pI,zay,t1]
   ·rcases zdZ (p 1>1073741824) with t2|t2
    ·rw[bad 1 (by decide) (by have:=of_eq_true t2;omega)]
     simp(disch:=omega)only[go_sem,seval,wqq,f1,f6,f7,pI,zay,t1,t2]
    ·have u1:=of_eq_false t1
     have u2:=of_eq_false t2
     simp(disch:=omega)only[go_sem,seval,wqq,f1,f6,f7,pI,zay,t1,t2]
     exact ih 2 _ _ (by omega) ⟨by omega,nxt 1 (by omega) rfl,by simp only[go_sem,seval,f1],by simp only[go_sem,seval,f6],by simp only[go_sem,seval],rfl⟩
  ·have hpe:=hp 2
   unfold Fits64 at hpe
   rcases zdZ (p 2 < -1073741824) with t1|t1
   ·rw[bad 2 (by decide) (by have:=of_eq_true t1;omega)]
    simp(disch:=omega)only[go_sem,seval,wqq,f1,f6,f7,pI,zay,t1]
   ·rcases zdZ (p 2>1073741824) with t2|t2
    ·rw[bad 2 (by decide) (by have:=of_eq_true t2;omega)]
     simp(disch:=omega)only[go_sem,seval,wqq,f1,f6,f7,pI,zay,t1,t2]
    ·have u1:=of_eq_false t1
     have u2:=of_eq_false t2
     simp(disch:=omega)only[go_sem,seval,wqq,f1,f6,f7,pI,zay,t1,t2]
     exact ih 3 _ _ (by omega) ⟨by omega,nxt 2 (by omega) rfl,by simp only[go_sem,seval,f1],by simp only[go_sem,seval,f6],by simp only[go_sem,seval],rfl⟩
  ·have hpe:=hp 3
   unfold Fits64 at hpe
   rcases zdZ (p 3 < -1073741824) with t1|t1
   ·rw[bad 3 (by decide) (by have:=of_eq_true t1;omega)]
    simp(disch:=omega)only[go_sem,seval,wqq,f1,f6,f7,pI,zay,t1]
   ·rcases zdZ (p 3>1073741824) with t2|t2
    ·rw[bad 3 (by decide) (by have:=of_eq_true t2;omega)]
     simp(disch:=omega)only[go_sem,seval,wqq,f1,f6,f7,pI,zay,t1,t2]
    ·have u1:=of_eq_false t1
     have u2:=of_eq_false t2
     simp(disch:=omega)only[go_sem,seval,wqq,f1,f6,f7,pI,zay,t1,t2]
     exact ih 4 _ _ (by omega) ⟨by omega,nxt 3 (by omega) rfl,by simp only[go_sem,seval,f1],by simp only[go_sem,seval,f6],by simp only[go_sem,seval],rfl⟩
  ·have hpe:=hp 4
   unfold Fits64 at hpe
   rcases zdZ (p 4 < -1073741824) with t1|t1
   ·rw[bad 4 (by decide) (by have:=of_eq_true t1;omega)]
    simp(disch:=omega)only[go_sem,seval,wqq,f1,f6,f7,pI,zay,t1]
   ·rcases zdZ (p 4>1073741824) with t2|t2
    ·rw[bad 4 (by decide) (by have:=of_eq_true t2;omega)]
     simp(disch:=omega)only[go_sem,seval,wqq,f1,f6,f7,pI,zay,t1,t2]
    ·have u1:=of_eq_false t1
     have u2:=of_eq_false t2
     simp(disch:=omega)only[go_sem,seval,wqq,f1,f6,f7,pI,zay,t1,t2]
     exact ih 5 _ _ (by omega) ⟨by omega,nxt 4 (by omega) rfl,by simp only[go_sem,seval,f1],by simp only[go_sem,seval,f6],by simp only[go_sem,seval],rfl⟩
  ·have hpe:=hp 5
   unfold Fits64 at hpe
   rcases zdZ (p 5 < -1073741824) with t1|t1
   ·rw[bad 5 (by decide) (by have:=of_eq_true t1;omega)]
    simp(disch:=omega)only[go_sem,seval,wqq,f1,f6,f7,pI,zay,t1]
   ·rcases zdZ (p 5>1073741824) with t2|t2
    ·rw[bad 5 (by decide) (by have:=of_eq_true t2;omega)]
     simp(disch:=omega)only[go_sem,seval,wqq,f1,f6,f7,pI,zay,t1,t2]
    ·have u1:=of_eq_false t1
     have u2:=of_eq_false t2
     simp(disch:=omega)only[go_sem,seval,wqq,f1,f6,f7,pI,zay,t1,t2]
     exact ih 6 _ _ (by omega) ⟨by omega,nxt 5 (by omega) rfl,by simp only[go_sem,seval,f1],by simp only[go_sem,seval,f6],by simp only[go_sem,seval],rfl⟩
  ·have hpe:=hp 6
   unfold Fits64 at hpe
   rcases zdZ (p 6 < -1073741824) with t1|t1
   ·rw[bad 6 (by decide) (by have:=of_eq_true t1;omega)]
    simp(disch:=omega)only[go_sem,seval,wqq,f1,f6,f7,pI,zay,t1]
   ·rcases zdZ (p 6>1073741824) with t2|t2
    ·rw[bad 6 (by decide) (by have:=of_eq_true t2;omega)]
     simp(disch:=omega)only[go_sem,seval,wqq,f1,f6,f7,pI,zay,t1,t2]
    ·have u1:=of_eq_false t1
     have u2:=of_eq_false t2
     simp(disch:=omega)only[go_sem,seval,wqq,f1,f6,f7,pI,zay,t1,t2]
     exact ih 7 _ _ (by omega) ⟨by omega,nxt 6 (by omega) rfl,by simp only[go_sem,seval,f1],by simp only[go_sem,seval,f6],by simp only[go_sem,seval],rfl⟩
  ·have hpe:=hp 7
   unfold Fits64 at hpe
   rcases zdZ (p 7 < -1073741824) with t1|t1
   ·rw[bad 7 (by decide) (by have:=of_eq_true t1;omega)]
    simp(disch:=omega)only[go_sem,seval,wqq,f1,f6,f7,pI,zay,t1]
   ·rcases zdZ (p 7>1073741824) with t2|t2
    ·rw[bad 7 (by decide) (by have:=of_eq_true t2;omega)]
     simp(disch:=omega)only[go_sem,seval,wqq,f1,f6,f7,pI,zay,t1,t2]
    ·have u1:=of_eq_false t1
     have u2:=of_eq_false t2
     simp(disch:=omega)only[go_sem,seval,wqq,f1,f6,f7,pI,zay,t1,t2]
     exact ih 8 _ _ (by omega) ⟨by omega,nxt 7 (by omega) rfl,by simp only[go_sem,seval,f1],by simp only[go_sem,seval,f6],by simp only[go_sem,seval],rfl⟩
  ·have hpe:=hp 8
   unfold Fits64 at hpe
   rcases zdZ (p 8 < -1073741824) with t1|t1
   ·rw[bad 8 (by decide) (by have:=of_eq_true t1;omega)]
    simp(disch:=omega)only[go_sem,seval,wqq,f1,f6,f7,pI,zay,t1]
   ·rcases zdZ (p 8>1073741824) with t2|t2
    ·rw[bad 8 (by decide) (by have:=of_eq_true t2;omega)]
     simp(disch:=omega)only[go_sem,seval,wqq,f1,f6,f7,pI,zay,t1,t2]
    ·have u1:=of_eq_false t1
     have u2:=of_eq_false t2
     simp(disch:=omega)only[go_sem,seval,wqq,f1,f6,f7,pI,zay,t1,t2]
     exact ih 9 _ _ (by omega) ⟨by omega,nxt 8 (by omega) rfl,by simp only[go_sem,seval,f1],by simp only[go_sem,seval,f6],by simp only[go_sem,seval],rfl⟩
 ·obtain rfl:i=9:=by omega
  rw[good hlo]
  by_cases h0:dt.v=0
  ·have c0:(cmpI dt.v 0=0)=True:=by rw[zar];simp[h0]
   rw[if_pos h0]
   simp(disch:=omega)only[go_sem,seval,wqq,f1,f6,f7,hm,hd,sg,c0]
  ·have c0:(cmpI dt.v 0=0)=False:=by rw[zar];simp[h0]
   rw[if_neg h0]
   simp(disch:=omega)only[go_sem,seval,wqq,f1,f6,f7,hm,hd,sg,c0]
end Go.Eng
namespace Go.Eng
def gN (X:Nat→Int):Nat→Nat
 | 0=>0
 | i+1=>Nat.gcd (gN X i) (X i).natAbs
def fN (X:Nat→Int):Nat→Int
 | 0=>0
 | i+1=>if fN X i=0 then cmpI (X i) 0 else fN X i
theorem zfd (X:Nat→Int):∀i,fN X i=0∨fN X i=1∨fN X i = -1
 | 0=>.inl rfl
 | i+1=>by
  have h:=zdp (X i) 0
  have:=zfd X i
  unfold fN
  split<;>omega
theorem zew (X:Nat→Int):∀i,fN X i=0→gN X i=0
 | 0,_=>rfl
 | i+1,h=>by
  unfold fN at h
  split at h
  ·rename_i h0
   have h1:=zew X i h0
   rw[zar] at h
   show Nat.gcd (gN X i) (X i).natAbs=0
   rw[h1,h];rfl
  ·rename_i h0;exact(h0 h).elim
noncomputable def gW (x:Nat→WI):Nat→WI
 | 0=>wi0
 | i+1=>(gW x i).gcd (x i)
theorem zr9 (x:Nat→WI):∀i,(gW x i).v=(gN (fun e=>(x e).v) i:Int)
 | 0=>rfl
 | i+1=>by
  show ((Nat.gcd (gW x i).v.natAbs (x i).v.natAbs:Nat):Int)=_
  rw[zr9 x i,Int.natAbs_natCast];rfl
noncomputable def gC (x:Nat→WI):Nat→List PV
 | 0=>[.b false,.nl]
 | i+1=>[.b (decide ((gW x (i+1)).v<0)),D (gW x (i+1)).v.natAbs]
def okN (X:Nat→Int):Prop:=∀e,e<9 → -1073741824≤X e/gN X 9∧X e/gN X 9≤1073741824
open Classical in
noncomputable def nfP (X:Nat→Int):Nat→Int:=if okN X then fun e=>X e/gN X 9*fN X 9 else zI
open Classical in
noncomputable def nfE (X:Nat→Int):Int:=if okN X then 0 else 5
theorem pI0:PV.ag [.i .i64 0,.i .i64 0,.i .i64 0,.i .i64 0,.i .i64 0,.i .i64 0,.i .i64 0,.i .i64 0,.i .i64 0]=pI zI:=rfl
theorem zks {q s:Int} (h1 : -9223372036854775808≤q) (h2:q≤9223372036854775807) (ho:¬(-1073741824≤q∧q≤1073741824)) (hs:s=1∨s = -1):IntKind.i64.wrap (q*s) < -1073741824∨IntKind.i64.wrap (q*s)>1073741824:=by
 rcases hs with rfl|rfl
 ·rw[Int.mul_one,wqa (by omega) (by omega)];omega
 ·by_cases hm:q = -9223372036854775808
  ·subst hm;left;decide
  ·rw[show q * -1 = -q by omega,wqa (by omega) (by omega)];omega
set_option maxHeartbeats 8000000 in
theorem ziC (x:Nat→WI) (hg:gN (fun e=>(x e).v) 9≠0):pf E0 314 [mW x]=some (.tu [pI (nfP fun e=>(x e).v),.i .i64 (nfE fun e=>(x e).v)]):=by
 obtain⟨X,hX⟩:∃X:Nat→Int,X=fun e=>(x e).v:=⟨_,rfl⟩
 have gv:=zr9 x 9
 rw[←hX] at hg gv ⊢
 have Xe:∀e,(x e).v=X e:=fun e=>by rw[hX]
 have fr9:=zfd X 9
 have s9:fN X 9=1∨fN X 9 = -1:=by
  rcases fr9 with h|h
  ·exact(hg (zew X 9 h)).elim
  ·exact h
 have gw0:(gW x 9).v≠0:=by rw[gv];omega
 have bad:∀e,e<9→¬(-1073741824≤X e/gN X 9∧X e/gN X 9≤1073741824)→nfP X=zI∧nfE X=5:=fun e he h=>by
  have hn:¬okN X:=fun q=>h (q e he)
  exact⟨by unfold nfP;rw[if_neg hn],by unfold nfE;rw[if_neg hn]⟩
 have good:okN X→nfP X=(fun e=>X e/gN X 9*fN X 9)∧nfE X=0:=fun h=>⟨by unfold nfP;rw[if_pos h],by unfold nfE;rw[if_pos h]⟩
 generalize nfP X=P at *
 generalize nfE X=E at *
 have sgn:∀e,pf E0 31 [wiP (x e)]=some (.i .i64 (cmpI (X e) 0)):=fun e=>by rw[←Xe];exact zaN (x e)
 have gcd:∀e,pf E0 18 [wiP (gW x e),wiP (x e)]=some (wiP (gW x (e+1))):=fun e=>zfT (gW x e) (x e)
 refine zaf (xf:=zvp) rfl (by simp[zvp]) ?_
 simp only[zvp]
 simp(disch:=omega)only[go_sem,seval,wqq]
 refine zas zwG.eq_1 (fun(i:Nat) fr M=>i≤9∧fr 1=.p 0 0∧fr 2=.p 1 0∧fr 4=.p 2 0∧fr 5=.i .i64 (fN X i)∧fr 17=mW x∧fr 18=(PV.i .i64 ((i:Nat):Int))∧∃b v G,M=some ⟨cW x,true,0⟩::some ⟨cQ 0 zI,true,b⟩::some ⟨gC x i,true,v⟩::G) (fun i=>9-i) ?_ 0 ⟨by omega,by simp only[go_sem,seval],by simp only[go_sem,seval],by simp only[go_sem,seval],by simp only[go_sem,seval];try rfl,by simp only[go_sem,seval],by simp only[go_sem,seval],_,_,[],rfl⟩
 rintro i fr M ⟨hi,f1,f2,f4,f5,f17,f18,b,v,G,rfl⟩ ih
 rcases Nat.lt_or_ge i 9 with h9|h9
 ·have h5:=f5
  by_cases h0:fN X i=0
  ·have hs:fN X (i+1)=cmpI (X i) 0:=by show (if fN X i=0 then _ else _)=_;rw[if_pos h0]
   rw[h0] at f5
   obtain rfl|rfl|rfl|rfl|rfl|rfl|rfl|rfl|rfl:=zdc h9
   ·have g1:=gcd 0
    have g2:=sgn 0
    simp(disch:=omega)only[go_sem,seval,wqq,f1,f2,f4,f5,f17,f18,mW,zad,gC,g1,g2,mG,mG0,sG,sG0,lG,lqq]
    exact ih 1 _ _ (by omega) ⟨by omega,by simp only[go_sem,seval,f1],by simp only[go_sem,seval,f2],by simp only[go_sem,seval,f4],by rw[hs];simp only[go_sem,seval],by simp only[go_sem,seval,f17],by simp only[go_sem,seval],_,_,_,rfl⟩
   ·have g1:=gcd 1
    have g2:=sgn 1
    simp(disch:=omega)only[go_sem,seval,wqq,f1,f2,f4,f5,f17,f18,mW,zad,gC,g1,g2,mG,mG0,sG,sG0,lG,lqq]
    exact ih 2 _ _ (by omega) ⟨by omega,by simp only[go_sem,seval,f1],by simp only[go_sem,seval,f2],by simp only[go_sem,seval,f4],by rw[hs];simp only[go_sem,seval],by simp only[go_sem,seval,f17],by simp only[go_sem,seval],_,_,_,rfl⟩
   ·have g1:=gcd 2
    have g2:=sgn 2
    simp(disch:=omega)only[go_sem,seval,wqq,f1,f2,f4,f5,f17,f18,mW,zad,gC,g1,g2,mG,mG0,sG,sG0,lG,lqq]
    exact ih 3 _ _ (by omega) ⟨by omega,by simp only[go_sem,seval,f1],by simp only[go_sem,seval,f2],by simp only[go_sem,seval,f4],by rw[hs];simp only[go_sem,seval],by simp only[go_sem,seval,f17],by simp only[go_sem,seval],_,_,_,rfl⟩
   ·have g1:=gcd 3
    have g2:=sgn 3
    simp(disch:=omega)only[go_sem,seval,wqq,f1,f2,f4,f5,f17,f18,mW,zad,gC,g1,g2,mG,mG0,sG,sG0,lG,lqq]
    exact ih 4 _ _ (by omega) ⟨by omega,by simp only[go_sem,seval,f1],by simp only[go_sem,seval,f2],by simp only[go_sem,seval,f4],by rw[hs];simp only[go_sem,seval],by simp only[go_sem,seval,f17],by simp only[go_sem,seval],_,_,_,rfl⟩
   ·have g1:=gcd 4
    have g2:=sgn 4
    simp(disch:=omega)only[go_sem,seval,wqq,f1,f2,f4,f5,f17,f18,mW,zad,gC,g1,g2,mG,mG0,sG,sG0,lG,lqq]
    exact ih 5 _ _ (by omega) ⟨by omega,by simp only[go_sem,seval,f1],by simp only[go_sem,seval,f2],by simp only[go_sem,seval,f4],by rw[hs];simp only[go_sem,seval],by simp only[go_sem,seval,f17],by simp only[go_sem,seval],_,_,_,rfl⟩
   ·have g1:=gcd 5
    have g2:=sgn 5
    simp(disch:=omega)only[go_sem,seval,wqq,f1,f2,f4,f5,f17,f18,mW,zad,gC,g1,g2,mG,mG0,sG,sG0,lG,lqq]
    exact ih 6 _ _ (by omega) ⟨by omega,by simp only[go_sem,seval,f1],by simp only[go_sem,seval,f2],by simp only[go_sem,seval,f4],by rw[hs];simp only[go_sem,seval],by simp only[go_sem,seval,f17],by simp only[go_sem,seval],_,_,_,rfl⟩
   ·have g1:=gcd 6
    have g2:=sgn 6
    simp(disch:=omega)only[go_sem,seval,wqq,f1,f2,f4,f5,f17,f18,mW,zad,gC,g1,g2,mG,mG0,sG,sG0,lG,lqq]
    exact ih 7 _ _ (by omega) ⟨by omega,by simp only[go_sem,seval,f1],by simp only[go_sem,seval,f2],by simp only[go_sem,seval,f4],by rw[hs];simp only[go_sem,seval],by simp only[go_sem,seval,f17],by simp only[go_sem,seval],_,_,_,rfl⟩
   ·have g1:=gcd 7
    have g2:=sgn 7
    simp(disch:=omega)only[go_sem,seval,wqq,f1,f2,f4,f5,f17,f18,mW,zad,gC,g1,g2,mG,mG0,sG,sG0,lG,lqq]
    exact ih 8 _ _ (by omega) ⟨by omega,by simp only[go_sem,seval,f1],by simp only[go_sem,seval,f2],by simp only[go_sem,seval,f4],by rw[hs];simp only[go_sem,seval],by simp only[go_sem,seval,f17],by simp only[go_sem,seval],_,_,_,rfl⟩
   ·have g1:=gcd 8
    have g2:=sgn 8
    simp(disch:=omega)only[go_sem,seval,wqq,f1,f2,f4,f5,f17,f18,mW,zad,gC,g1,g2,mG,mG0,sG,sG0,lG,lqq]
    exact ih 9 _ _ (by omega) ⟨by omega,by simp only[go_sem,seval,f1],by simp only[go_sem,seval,f2],by simp only[go_sem,seval,f4],by rw[hs];simp only[go_sem,seval],by simp only[go_sem,seval,f17],by simp only[go_sem,seval],_,_,_,rfl⟩
  ·have hs:fN X (i+1)=fN X i:=by show (if fN X i=0 then _ else _)=_;rw[if_neg h0]
   have t0:(fN X i=0)=False:=eq_false h0
   obtain rfl|rfl|rfl|rfl|rfl|rfl|rfl|rfl|rfl:=zdc h9
   ·have g1:=gcd 0
    simp(disch:=omega)only[go_sem,seval,wqq,f1,f2,f4,f5,f17,f18,mW,zad,gC,g1,t0,mG,mG0,sG,sG0,lG,lqq]
    exact ih 1 _ _ (by omega) ⟨by omega,by simp only[go_sem,seval,f1],by simp only[go_sem,seval,f2],by simp only[go_sem,seval,f4],by rw[hs];simp only[go_sem,seval,f5],by simp only[go_sem,seval,f17],by simp only[go_sem,seval],_,_,_,rfl⟩
   ·have g1:=gcd 1
    simp(disch:=omega)only[go_sem,seval,wqq,f1,f2,f4,f5,f17,f18,mW,zad,gC,g1,t0,mG,mG0,sG,sG0,lG,lqq]
    exact ih 2 _ _ (by omega) ⟨by omega,by simp only[go_sem,seval,f1],by simp only[go_sem,seval,f2],by simp only[go_sem,seval,f4],by rw[hs];simp only[go_sem,seval,f5],by simp only[go_sem,seval,f17],by simp only[go_sem,seval],_,_,_,rfl⟩
   ·have g1:=gcd 2
    simp(disch:=omega)only[go_sem,seval,wqq,f1,f2,f4,f5,f17,f18,mW,zad,gC,g1,t0,mG,mG0,sG,sG0,lG,lqq]
    exact ih 3 _ _ (by omega) ⟨by omega,by simp only[go_sem,seval,f1],by simp only[go_sem,seval,f2],by simp only[go_sem,seval,f4],by rw[hs];simp only[go_sem,seval,f5],by simp only[go_sem,seval,f17],by simp only[go_sem,seval],_,_,_,rfl⟩
   ·have g1:=gcd 3
    simp(disch:=omega)only[go_sem,seval,wqq,f1,f2,f4,f5,f17,f18,mW,zad,gC,g1,t0,mG,mG0,sG,sG0,lG,lqq]
    exact ih 4 _ _ (by omega) ⟨by omega,by simp only[go_sem,seval,f1],by simp only[go_sem,seval,f2],by simp only[go_sem,seval,f4],by rw[hs];simp only[go_sem,seval,f5],by simp only[go_sem,seval,f17],by simp only[go_sem,seval],_,_,_,rfl⟩
   ·have g1:=gcd 4
    simp(disch:=omega)only[go_sem,seval,wqq,f1,f2,f4,f5,f17,f18,mW,zad,gC,g1,t0,mG,mG0,sG,sG0,lG,lqq]
    exact ih 5 _ _ (by omega) ⟨by omega,by simp only[go_sem,seval,f1],by simp only[go_sem,seval,f2],by simp only[go_sem,seval,f4],by rw[hs];simp only[go_sem,seval,f5],by simp only[go_sem,seval,f17],by simp only[go_sem,seval],_,_,_,rfl⟩
   ·have g1:=gcd 5
    simp(disch:=omega)only[go_sem,seval,wqq,f1,f2,f4,f5,f17,f18,mW,zad,gC,g1,t0,mG,mG0,sG,sG0,lG,lqq]
    exact ih 6 _ _ (by omega) ⟨by omega,by simp only[go_sem,seval,f1],by simp only[go_sem,seval,f2],by simp only[go_sem,seval,f4],by rw[hs];simp only[go_sem,seval,f5],by simp only[go_sem,seval,f17],by simp only[go_sem,seval],_,_,_,rfl⟩
   ·have g1:=gcd 6
    simp(disch:=omega)only[go_sem,seval,wqq,f1,f2,f4,f5,f17,f18,mW,zad,gC,g1,t0,mG,mG0,sG,sG0,lG,lqq]
    exact ih 7 _ _ (by omega) ⟨by omega,by simp only[go_sem,seval,f1],by simp only[go_sem,seval,f2],by simp only[go_sem,seval,f4],by rw[hs];simp only[go_sem,seval,f5],by simp only[go_sem,seval,f17],by simp only[go_sem,seval],_,_,_,rfl⟩
   ·have g1:=gcd 7
    simp(disch:=omega)only[go_sem,seval,wqq,f1,f2,f4,f5,f17,f18,mW,zad,gC,g1,t0,mG,mG0,sG,sG0,lG,lqq]
    exact ih 8 _ _ (by omega) ⟨by omega,by simp only[go_sem,seval,f1],by simp only[go_sem,seval,f2],by simp only[go_sem,seval,f4],by rw[hs];simp only[go_sem,seval,f5],by simp only[go_sem,seval,f17],by simp only[go_sem,seval],_,_,_,rfl⟩
   ·have g1:=gcd 8
    simp(disch:=omega)only[go_sem,seval,wqq,f1,f2,f4,f5,f17,f18,mW,zad,gC,g1,t0,mG,mG0,sG,sG0,lG,lqq]
    exact ih 9 _ _ (by omega) ⟨by omega,by simp only[go_sem,seval,f1],by simp only[go_sem,seval,f2],by simp only[go_sem,seval,f4],by rw[hs];simp only[go_sem,seval,f5],by simp only[go_sem,seval,f17],by simp only[go_sem,seval],_,_,_,rfl⟩
 ·obtain rfl:i=9:=by omega
  clear ih
  have gC9:gC x 9=[.b (decide ((gW x 9).v<0)),D (gW x 9).v.natAbs]:=rfl
  generalize hgw:gW x 9=g at *
  simp(disch:=omega)only[go_sem,seval,wqq,f1,f2,f4,f5,f17,f18,gC9,mG,mG0,sG,sG0,lG,lqq]
  have dvq:∀e,((x e).div g gw0).v=X e/gN X 9:=fun e=>by
   show (x e).v/g.v=_
   rw[Xe,gv]
  refine zas zwL.eq_1 (fun(i:Nat) fr M=>i≤9∧(∀e,e<i → -1073741824≤X e/gN X 9∧X e/gN X 9≤1073741824)∧fr 2=.p 1 0∧fr 4=.p 2 0∧fr 5=.i .i64 (fN X 9)∧fr 8=.p (G.length+3) 0∧fr 29=mW x∧fr 30=(PV.i .i64 ((i:Nat):Int))∧∃b v R,M=some ⟨cW x,true,0⟩::some ⟨cQ 0 zI,true,b⟩::some ⟨[.b (decide (g.v<0)),D g.v.natAbs],true,v⟩::(G++(some ⟨cQ i (fun e=>X e/gN X 9*fN X 9),true,i⟩::R)))
   (fun i=>9-i) ?_ 0 ⟨by omega,fun e he=>by omega,by simp only[go_sem,seval,f2],by simp only[go_sem,seval,f4],by simp only[go_sem,seval,f5],by simp only[go_sem,seval],by simp only[go_sem,seval],by simp only[go_sem,seval],b,v,[],rfl⟩
  clear b v f1 f2 f4 f5 f17 f18
  rintro i fr M ⟨hi,hlo,f2,f4,f5,f8,f29,f30,b,v,R,rfl⟩ ih
  rcases Nat.lt_or_ge i 9 with h9|h9
  ·have nxt:∀j,(-1073741824≤X j/gN X 9∧X j/gN X 9≤1073741824)→j=i→∀e,e<j+1 → -1073741824≤X e/gN X 9∧X e/gN X 9≤1073741824:=fun j hj hji e he=>by
    subst hji
    rcases Nat.lt_or_ge e j with h|h
    ·exact hlo e h
    ·obtain rfl:e=j:=by omega
     exact hj
   have dv:=zio (x i) g gw0
   have sm:=zeK ((x i).div g gw0)
   have dq:=dvq i
   generalize (x i).div g gw0=d at *
   generalize (x i).mod g gw0=d2 at *
   by_cases hq : -1073741824≤X i/gN X 9∧X i/gN X 9≤1073741824
   ·have nx:=nxt i hq rfl
    have s1:isSmall d.v=true:=by unfold isSmall;exact decide_eq_true (by rw[dq];omega)
    have s2:small d.v=X i/gN X 9:=by unfold small;rw[s1,dq];rfl
    rw[s1,s2] at sm
    have hqs : -1073741824≤X i/gN X 9*fN X 9∧X i/gN X 9*fN X 9≤1073741824:=by
     rcases s9 with h|h<;>rw[h]<;>omega
    clear dvq bad nxt
    generalize hQ:(fun e=>X e/(gN X 9:Int)*fN X 9)=Y at *
    have hY:X i/gN X 9*fN X 9=Y i:=by rw[←hQ]
    have t1:(Y i < -1073741824)=False:=eq_false (by omega)
    have t2:(Y i>1073741824)=False:=eq_false (by omega)
    rw[hY] at hqs
    generalize X i/(gN X 9:Int)=q at *
    obtain rfl|rfl|rfl|rfl|rfl|rfl|rfl|rfl|rfl:=zdc h9
    ·simp(disch:=omega)only[go_sem,seval,wqq,f2,f4,f5,f8,f29,f30,mW,zad,dv,sm,hY,t1,t2,mG,mG0,sG,sG0,lG,lqq]
     exact ih 1 _ _ (by omega) ⟨by omega,nx,by simp only[go_sem,seval,f2],by simp only[go_sem,seval,f4],by simp only[go_sem,seval,f5],by simp only[go_sem,seval,f8],by simp only[go_sem,seval,f29],by simp only[go_sem,seval],b,v,_,rfl⟩
    ·simp(disch:=omega)only[go_sem,seval,wqq,f2,f4,f5,f8,f29,f30,mW,zad,dv,sm,hY,t1,t2,mG,mG0,sG,sG0,lG,lqq]
     exact ih 2 _ _ (by omega) ⟨by omega,nx,by simp only[go_sem,seval,f2],by simp only[go_sem,seval,f4],by simp only[go_sem,seval,f5],by simp only[go_sem,seval,f8],by simp only[go_sem,seval,f29],by simp only[go_sem,seval],b,v,_,rfl⟩
    ·simp(disch:=omega)only[go_sem,seval,wqq,f2,f4,f5,f8,f29,f30,mW,zad,dv,sm,hY,t1,t2,mG,mG0,sG,sG0,lG,lqq]
     exact ih 3 _ _ (by omega) ⟨by omega,nx,by simp only[go_sem,seval,f2],by simp only[go_sem,seval,f4],by simp only[go_sem,seval,f5],by simp only[go_sem,seval,f8],by simp only[go_sem,seval,f29],by simp only[go_sem,seval],b,v,_,rfl⟩
    ·simp(disch:=omega)only[go_sem,seval,wqq,f2,f4,f5,f8,f29,f30,mW,zad,dv,sm,hY,t1,t2,mG,mG0,sG,sG0,lG,lqq]
     exact ih 4 _ _ (by omega) ⟨by omega,nx,by simp only[go_sem,seval,f2],by simp only[go_sem,seval,f4],by simp only[go_sem,seval,f5],by simp only[go_sem,seval,f8],by simp only[go_sem,seval,f29],by simp only[go_sem,seval],b,v,_,rfl⟩
    ·simp(disch:=omega)only[go_sem,seval,wqq,f2,f4,f5,f8,f29,f30,mW,zad,dv,sm,hY,t1,t2,mG,mG0,sG,sG0,lG,lqq]
     exact ih 5 _ _ (by omega) ⟨by omega,nx,by simp only[go_sem,seval,f2],by simp only[go_sem,seval,f4],by simp only[go_sem,seval,f5],by simp only[go_sem,seval,f8],by simp only[go_sem,seval,f29],by simp only[go_sem,seval],b,v,_,rfl⟩
    ·simp(disch:=omega)only[go_sem,seval,wqq,f2,f4,f5,f8,f29,f30,mW,zad,dv,sm,hY,t1,t2,mG,mG0,sG,sG0,lG,lqq]
     exact ih 6 _ _ (by omega) ⟨by omega,nx,by simp only[go_sem,seval,f2],by simp only[go_sem,seval,f4],by simp only[go_sem,seval,f5],by simp only[go_sem,seval,f8],by simp only[go_sem,seval,f29],by simp only[go_sem,seval],b,v,_,rfl⟩
    ·simp(disch:=omega)only[go_sem,seval,wqq,f2,f4,f5,f8,f29,f30,mW,zad,dv,sm,hY,t1,t2,mG,mG0,sG,sG0,lG,lqq]
     exact ih 7 _ _ (by omega) ⟨by omega,nx,by simp only[go_sem,seval,f2],by simp only[go_sem,seval,f4],by simp only[go_sem,seval,f5],by simp only[go_sem,seval,f8],by simp only[go_sem,seval,f29],by simp only[go_sem,seval],b,v,_,rfl⟩
    ·simp(disch:=omega)only[go_sem,seval,wqq,f2,f4,f5,f8,f29,f30,mW,zad,dv,sm,hY,t1,t2,mG,mG0,sG,sG0,lG,lqq]
     exact ih 8 _ _ (by omega) ⟨by omega,nx,by simp only[go_sem,seval,f2],by simp only[go_sem,seval,f4],by simp only[go_sem,seval,f5],by simp only[go_sem,seval,f8],by simp only[go_sem,seval,f29],by simp only[go_sem,seval],b,v,_,rfl⟩
    ·simp(disch:=omega)only[go_sem,seval,wqq,f2,f4,f5,f8,f29,f30,mW,zad,dv,sm,hY,t1,t2,mG,mG0,sG,sG0,lG,lqq]
     exact ih 9 _ _ (by omega) ⟨by omega,nx,by simp only[go_sem,seval,f2],by simp only[go_sem,seval,f4],by simp only[go_sem,seval,f5],by simp only[go_sem,seval,f8],by simp only[go_sem,seval,f29],by simp only[go_sem,seval],b,v,_,rfl⟩
   ·obtain⟨rfl,rfl⟩:=bad i h9 hq
    clear ih good dvq bad nxt
    by_cases hs:isSmall d.v=true
    ·have s2:small d.v=X i/gN X 9:=by unfold small;rw[if_pos hs,dq]
     rw[hs,s2] at sm
     have hb : -9223372036854775808≤X i/gN X 9∧X i/gN X 9≤9223372036854775807:=by rw[←dq];exact of_decide_eq_true hs
     have wo:=zks hb.1 hb.2 hq s9
     generalize X i/(gN X 9:Int)=q at *
     generalize hW:IntKind.i64.wrap (q*fN X 9)=w at *
     rcases zdZ (w < -1073741824) with t1|t1
     ·obtain rfl|rfl|rfl|rfl|rfl|rfl|rfl|rfl|rfl:=zdc h9 <;>
      simp(disch:=omega)only[go_sem,seval,wqq,f2,f4,f5,f8,f29,f30,mW,zad,dv,sm,hW,t1,pI0,mG,mG0,sG,sG0,lG,lqq]
     ·have t2:(w>1073741824)=True:=eq_true (by have:=of_eq_false t1;omega)
      obtain rfl|rfl|rfl|rfl|rfl|rfl|rfl|rfl|rfl:=zdc h9 <;>
      simp(disch:=omega)only[go_sem,seval,wqq,f2,f4,f5,f8,f29,f30,mW,zad,dv,sm,hW,t1,t2,pI0,mG,mG0,sG,sG0,lG,lqq]
    ·have hs:isSmall d.v=false:=by simpa using hs
     have s2:small d.v=0:=by unfold small;rw[hs];rfl
     rw[hs,s2] at sm
     obtain rfl|rfl|rfl|rfl|rfl|rfl|rfl|rfl|rfl:=zdc h9 <;>
     simp(disch:=omega)only[go_sem,seval,wqq,f2,f4,f5,f8,f29,f30,mW,zad,dv,sm,pI0,mG,mG0,sG,sG0,lG,lqq]
  ·obtain rfl:i=9:=by omega
   obtain⟨rfl,rfl⟩:=good hlo
   simp(disch:=omega)only[go_sem,seval,wqq,f2,f4,f5,f8,f29,f30,cQ9,mG,mG0,sG,sG0,lG,lqq]
end Go.Eng
namespace Go.Eng
theorem zj6 {z:Int} (lz:tlen z.natAbs<100000):pf E0 117 [nP z]=some (.tu [.i .i64 (small z),.b (isSmall z)]):=by
 obtain⟨mx,hmx⟩:∃mx:Int,mx=9223372036854775807:=⟨_,rfl⟩
 obtain⟨mn,hmn⟩:∃mn:Int,mn = -9223372036854775808:=⟨_,rfl⟩
 have o1:pf E0 114 [.i .i64 9223372036854775807]=some (nP mx):=by rw[hmx];exact zck 9223372036854775807 (by unfold Fits64;omega)
 have o2:pf E0 114 [.i .i64 (-9223372036854775808)]=some (nP mn):=by rw[hmn];exact zck (-9223372036854775808) (by unfold Fits64;omega)
 have l1:tlen (9223372036854775807:Int).natAbs<100000:=by
  have:tlen (9223372036854775807:Int).natAbs≤5:=zav (by decide)
  omega
 have l2:tlen (-9223372036854775808:Int).natAbs<100000:=by
  have:tlen (-9223372036854775808:Int).natAbs≤5:=zav (by decide)
  omega
 have c1:=zej z mx (by omega) (by rw[hmx];omega)
 have c2:=zej z mn (by omega) (by rw[hmn];omega)
 refine zaf (xf:=zvW) rfl (by simp[zvW]) ?_
 simp only[zvW]
 have hcz:(nP z).cells=[.b (decide (z<0)),T z.natAbs]:=rfl
 by_cases h1:9223372036854775807<z
 ·have hf:isSmall z=false:=decide_eq_false (by omega)
  have hf2:small z=0:=by unfold small;rw[hf];rfl
  have q1:(cmpI z mx>0)=True:=by rw[zf7];simp;omega
  simp(disch:=omega)only[go_sem,seval,wqq]
  refine zb8 (fun fr2 Ms hT=>by rw[List.all_cons,List.all_cons,zbB hT rfl,zcQ hT (i:=5) (j:=6) rfl rfl rfl rfl rfl (n:=0) (o:=0) (by simp only[go_sem,seval])];rfl) ?_
  simp(disch:=omega)only[go_sem,seval,wqq,o1,o2,c1,c2,q1,hf,hf2]
 ·have q1:(cmpI z mx>0)=False:=by rw[zf7];simp;omega
  by_cases h2:z < -9223372036854775808
  ·have hf:isSmall z=false:=decide_eq_false (by omega)
   have hf2:small z=0:=by unfold small;rw[hf];rfl
   have q2:(cmpI z mn<0)=True:=by rw[zbW];simp;omega
   simp(disch:=omega)only[go_sem,seval,wqq]
   refine zb8 (fun fr2 Ms hT=>by rw[List.all_cons,List.all_cons,zbB hT rfl,zcQ hT (i:=5) (j:=6) rfl rfl rfl rfl rfl (n:=0) (o:=0) (by simp only[go_sem,seval])];rfl) ?_
   simp(disch:=omega)only[go_sem,seval,wqq,o1,o2,c1,c2,q1,q2,hf,hf2]
  ·have q2:(cmpI z mn<0)=False:=by rw[zbW];simp;omega
   have hf:isSmall z=true:=decide_eq_true (by omega)
   have hf2:small z=z:=by unfold small;rw[hf];rfl
   rw[hf,hf2]
   simp(disch:=omega)only[go_sem,seval,wqq]
   refine zb8 (fun fr2 Ms hT=>by rw[List.all_cons,List.all_cons,zbB hT rfl,zcQ hT (i:=5) (j:=6) rfl rfl rfl rfl rfl (n:=0) (o:=0) (by simp only[go_sem,seval])];rfl) ?_
   simp(disch:=omega)only[go_sem,seval,wqq,o1,o2,c1,c2,q1,q2]
   have hv:z.natAbs≤9223372036854775808:=by omega
   have eT:T z.natAbs=Tw (tlen z.natAbs) z.natAbs:=rfl
   refine zas zwU.eq_1 (fun(i:Nat) fr M=>i≤tlen z.natAbs∧fr 1=.p 0 0∧fr 5=.i .i64 ((i:Int)-1)∧fr 4=.i .i64 (sgn (decide (z<0)) (z.natAbs/10000^i))∧M=[some ⟨[.b (decide (z<0)),T z.natAbs],true,0⟩]) id ?_ (tlen z.natAbs) ⟨Nat.le_refl _,by simp only[go_sem,seval],by simp only[go_sem,seval],by simp only[go_sem,seval];rw[Nat.div_eq_of_lt (zaq _)];unfold sgn;split<;>rfl,rfl⟩
   rintro i fr M ⟨hi,g1,g5,g4,rfl⟩ ih
   by_cases hi0:i=0
   ·subst hi0
    have e0:sgn (decide (z<0)) (z.natAbs/10000^0)=z:=by
     rw[Nat.pow_zero,Nat.div_one];unfold sgn
     by_cases q:z<0
     ·simp[q];omega
     ·simp[q];omega
    rw[e0] at g4
    simp(disch:=omega)only[go_sem,seval,wqq,g1,g4,g5,Int.natCast_zero,Int.zero_sub,Int.reduceNeg,Int.reduceLE,ge_iff_le]
   ·obtain⟨m,rfl⟩:∃m,i=m+1:=⟨i-1,by omega⟩
    have q1:(((m+1:Nat):Int)-1≥0)=True:=by simp
    have q2:(((m+1:Nat):Int)-1)=(m:Int):=by omega
    have hml:m<tlen z.natAbs:=by omega
    have hsp:z.natAbs/10000^m=z.natAbs/10000^(m+1)*10000+tdg z.natAbs m:=by rw[zbD,zat];omega
    have hd:=zdS z.natAbs m
    have hle:=Nat.div_le_self z.natAbs (10000^m)
    have fin:=fun(fr':PFr) (f1:fr' 1=.p 0 0) (f5:fr' 5=.i .i64 ((m:Int)-1)) (f4:fr' 4=.i .i64 (sgn (decide (z<0)) (z.natAbs/10000^m)))=>ih m fr' _ (by simp only[id];omega) ⟨by omega,f1,f5,f4,rfl⟩
    unfold sgn at g4 fin
    rw[hsp] at fin hle
    generalize z.natAbs/10000^(m+1)=u at *
    by_cases q:z<0
    ·simp only[q,decide_true,if_true] at g4 fin
     have e1 : -(u:Int)*10000-((tdg z.natAbs m:Nat):Int) = -((u*10000+tdg z.natAbs m:Nat):Int):=by omega
     rw[←e1] at fin
     simp(disch:=omega)only[go_sem,seval,wqq,g1,g4,g5,q,q1,q2,eT,zbY]
     exact fin _ (by simp only[go_sem,seval,g1]) (by simp only[go_sem,seval]) (by simp only[go_sem,seval])
    ·simp only[q,decide_false,Bool.false_eq_true,if_false] at g4 fin
     have e1:(u:Int)*10000+((tdg z.natAbs m:Nat):Int)=((u*10000+tdg z.natAbs m:Nat):Int):=by omega
     rw[←e1] at fin
     simp(disch:=omega)only[go_sem,seval,wqq,g1,g4,g5,q,q1,q2,eT,zbY]
     exact fin _ (by simp only[go_sem,seval,g1]) (by simp only[go_sem,seval]) (by simp only[go_sem,seval])
end Go.Eng
namespace Go.Eng
noncomputable def cN (z:Nat→Int):List PV:=[.b (decide (z 0<0)),T (z 0).natAbs,.b (decide (z 1<0)),T (z 1).natAbs,.b (decide (z 2<0)),T (z 2).natAbs,.b (decide (z 3<0)),T (z 3).natAbs,.b (decide (z 4<0)),T (z 4).natAbs,.b (decide (z 5<0)),T (z 5).natAbs,.b (decide (z 6<0)),T (z 6).natAbs,.b (decide (z 7<0)),T (z 7).natAbs,.b (decide (z 8<0)),T (z 8).natAbs]
noncomputable def nM (z:Nat→Int):PV:=.ag (cN z)
theorem zag (z:Nat→Int):cN z=[.b (decide (z 0<0)),T (z 0).natAbs,.b (decide (z 1<0)),T (z 1).natAbs,.b (decide (z 2<0)),T (z 2).natAbs,.b (decide (z 3<0)),T (z 3).natAbs,.b (decide (z 4<0)),T (z 4).natAbs,.b (decide (z 5<0)),T (z 5).natAbs,.b (decide (z 6<0)),T (z 6).natAbs,.b (decide (z 7<0)),T (z 7).natAbs,.b (decide (z 8<0)),T (z 8).natAbs]:=_root_.id rfl
noncomputable def cT (s:Nat→Bool) (z:Nat→Int):List PV:=[if s 0 then .b (decide (z 0<0)) else .b false,if s 0 then T (z 0).natAbs else .nl,if s 1 then .b (decide (z 1<0)) else .b false,if s 1 then T (z 1).natAbs else .nl,if s 2 then .b (decide (z 2<0)) else .b false,if s 2 then T (z 2).natAbs else .nl,if s 3 then .b (decide (z 3<0)) else .b false,if s 3 then T (z 3).natAbs else .nl,if s 4 then .b (decide (z 4<0)) else .b false,if s 4 then T (z 4).natAbs else .nl,if s 5 then .b (decide (z 5<0)) else .b false,if s 5 then T (z 5).natAbs else .nl,if s 6 then .b (decide (z 6<0)) else .b false,if s 6 then T (z 6).natAbs else .nl,if s 7 then .b (decide (z 7<0)) else .b false,if s 7 then T (z 7).natAbs else .nl,if s 8 then .b (decide (z 8<0)) else .b false,if s 8 then T (z 8).natAbs else .nl]
theorem zaM (s:Nat→Bool) (z:Nat→Int):cT s z=[if s 0 then .b (decide (z 0<0)) else .b false,if s 0 then T (z 0).natAbs else .nl,if s 1 then .b (decide (z 1<0)) else .b false,if s 1 then T (z 1).natAbs else .nl,if s 2 then .b (decide (z 2<0)) else .b false,if s 2 then T (z 2).natAbs else .nl,if s 3 then .b (decide (z 3<0)) else .b false,if s 3 then T (z 3).natAbs else .nl,if s 4 then .b (decide (z 4<0)) else .b false,if s 4 then T (z 4).natAbs else .nl,if s 5 then .b (decide (z 5<0)) else .b false,if s 5 then T (z 5).natAbs else .nl,if s 6 then .b (decide (z 6<0)) else .b false,if s 6 then T (z 6).natAbs else .nl,if s 7 then .b (decide (z 7<0)) else .b false,if s 7 then T (z 7).natAbs else .nl,if s 8 then .b (decide (z 8<0)) else .b false,if s 8 then T (z 8).natAbs else .nl]:=_root_.id rfl
def sB (n:Nat):Nat→Bool:=fun e=>decide (e<n)
@[go_sem] theorem ztE (M:PM) (d:Nat) (w:Nat→Int):fz M (d+1+1) (nM w)=some (nM w,[]):=_root_.id rfl
@[go_sem] theorem zo0 (w:Nat→Int):(nM w).cells=cN w:=_root_.id rfl
@[go_sem] theorem zqa (w:Nat→Int):PV.ag (cN w)=nM w:=_root_.id rfl
@[go_sem] theorem ztZ (w:Nat→Int):(cN w).all PV.scal=true:=_root_.id rfl
@[go_sem] theorem ztN (w:Nat→Int):(cN w).length=18:=_root_.id rfl
@[go_sem] theorem zt9 (w:Nat→Int):(cN w).take 18=cN w:=_root_.id rfl
@[go_sem] theorem ztR (s:Nat→Bool) (w:Nat→Int):(cT s w).length=18:=_root_.id rfl
@[go_sem] theorem zt5 (s:Nat→Bool) (w u:Nat→Int):psplice (cT s w) 0 (cN u)=cN u:=_root_.id rfl
def rtK (a b c d e:Int):Int:=a*(b*c)-a*(d*e)
def rdV (z:Nat→Int):Int:=0+rtK (z 0) (z 4) (z 8) (z 5) (z 7)+rtK (z 1) (z 5) (z 6) (z 3) (z 8)+rtK (z 2) (z 3) (z 7) (z 4) (z 6)
theorem zf0 {a b c d e S:Int} (la:tlen a.natAbs≤9000) (lb:tlen b.natAbs≤9000) (lc:tlen c.natAbs≤9000) (ld:tlen d.natAbs≤9000) (le:tlen e.natAbs≤9000) (lS:tlen S.natAbs≤60000) :
  pf E0 118 [nP b,nP c]=some (nP (b*c))∧pf E0 118 [nP a,nP (b*c)]=some (nP (a*(b*c)))∧pf E0 118 [nP d,nP e]=some (nP (d*e))∧pf E0 118 [nP a,nP (d*e)]=some (nP (a*(d*e))) ∧
  pf E0 121 [nP (a*(b*c)),nP (a*(d*e))]=some (nP (rtK a b c d e))∧pf E0 119 [nP S,nP (rtK a b c d e)]=some (nP (S+rtK a b c d e))∧tlen (S+rtK a b c d e).natAbs≤max (tlen S.natAbs) 27001+1:=by
 have h1:=zaw b c
 have h2:=zaw a (b*c)
 have h3:=zaw d e
 have h4:=zaw a (d*e)
 have h5:=zfs (a*(b*c)) (a*(d*e))
 have h6:=zaV S (rtK a b c d e)
 have h5:tlen (rtK a b c d e).natAbs≤max (tlen (a*(b*c)).natAbs) (tlen (a*(d*e)).natAbs)+1:=h5
 exact⟨zbP _ _ (by omega) (by omega),zbP _ _ (by omega) (by omega),zbP _ _ (by omega) (by omega),zbP _ _ (by omega) (by omega),zof _ _ (by omega) (by omega),zei _ _ (by omega) (by omega),by omega⟩
set_option maxHeartbeats 2000000 in
theorem zog {z:Nat→Int} (hz:∀e,tlen (z e).natAbs≤9000):pf E0 358 [nM z]=some (nP (rdV z)):=by
 have o0:=zck 0 (by decide)
 have n0:PV.ag [.b false,Tw (tlen 0) 0]=nP 0:=rfl
 obtain⟨a1,a2,a3,a4,a5,a6,a7⟩:=zf0 (a:=z 0) (b:=z 4) (c:=z 8) (d:=z 5) (e:=z 7) (S:=0) (hz _) (hz _) (hz _) (hz _) (hz _) (by rw[Int.natAbs_zero,zaE];decide)
 obtain⟨b1,b2,b3,b4,b5,b6,b7⟩:=zf0 (a:=z 1) (b:=z 5) (c:=z 6) (d:=z 3) (e:=z 8) (S:=0+rtK (z 0) (z 4) (z 8) (z 5) (z 7)) (hz _) (hz _) (hz _) (hz _) (hz _) (by rw[Int.natAbs_zero,zaE] at a7;omega)
 obtain⟨c1,c2,c3,c4,c5,c6,c7⟩:=zf0 (a:=z 2) (b:=z 3) (c:=z 7) (d:=z 4) (e:=z 6) (S:=0+rtK (z 0) (z 4) (z 8) (z 5) (z 7)+rtK (z 1) (z 5) (z 6) (z 3) (z 8)) (hz _) (hz _) (hz _) (hz _) (hz _) (by rw[Int.natAbs_zero,zaE] at a7;omega)
 unfold rdV
 clear a7 b7 c7
 refine zaf (xf:=zwt) rfl (by simp[zwt]) ?_
 simp only[zwt]
 simp(disch:=omega)only[go_sem,seval,wqq,o0]
 refine zaa zvz.eq_1 ?_
 simp(disch:=omega)only[go_sem,seval,wqq]
 refine zah [14] rfl ?_ ?_
 ·simp(disch:=omega)only[go_sem,seval,wqq,zag,a1,a2,a3,a4,a5,a6]
  exact⟨_,rfl,rfl⟩
 simp(disch:=omega)only[go_sem,seval,wqq,zag,a1,a2,a3,a4,a5,a6]
 refine zah [32] rfl ?_ ?_
 ·simp(disch:=omega)only[go_sem,seval,wqq,zag,a1,a2,a3,a4,a5,a6]
  exact⟨_,rfl,rfl⟩
 simp(disch:=omega)only[go_sem,seval,wqq,zag,a1,a2,a3,a4,a5,a6]
 refine zak [3] rfl (by simp only[go_sem,seval]) ?_
 simp(disch:=omega)only[go_sem,seval,wqq,n0,a1,a2,a3,a4,a5,a6]
 refine zaa zvz.eq_1 ?_
 simp(disch:=omega)only[go_sem,seval,wqq]
 refine zah [14] rfl ?_ ?_
 ·simp(disch:=omega)only[go_sem,seval,wqq,zag,b1,b2,b3,b4,b5,b6]
  exact⟨_,rfl,rfl⟩
 simp(disch:=omega)only[go_sem,seval,wqq,zag,b1,b2,b3,b4,b5,b6]
 refine zah [32] rfl ?_ ?_
 ·simp(disch:=omega)only[go_sem,seval,wqq,zag,b1,b2,b3,b4,b5,b6]
  exact⟨_,rfl,rfl⟩
 simp(disch:=omega)only[go_sem,seval,wqq,zag,b1,b2,b3,b4,b5,b6]
 refine zak [3] rfl (by simp only[go_sem,seval]) ?_
 simp(disch:=omega)only[go_sem,seval,wqq,n0,b1,b2,b3,b4,b5,b6]
 refine zaa zvz.eq_1 ?_
 simp(disch:=omega)only[go_sem,seval,wqq]
 refine zah [14] rfl ?_ ?_
 ·simp(disch:=omega)only[go_sem,seval,wqq,zag,c1,c2,c3,c4,c5,c6]
  exact⟨_,rfl,rfl⟩
 simp(disch:=omega)only[go_sem,seval,wqq,zag,c1,c2,c3,c4,c5,c6]
 refine zah [32] rfl ?_ ?_
 ·simp(disch:=omega)only[go_sem,seval,wqq,zag,c1,c2,c3,c4,c5,c6]
  exact⟨_,rfl,rfl⟩
 simp(disch:=omega)only[go_sem,seval,wqq,zag,c1,c2,c3,c4,c5,c6]
 refine zak [3] rfl (by simp only[go_sem,seval]) ?_
 simp(disch:=omega)only[go_sem,seval,wqq,n0,c1,c2,c3,c4,c5,c6]
 refine zaa zvz.eq_1 ?_
 simp(disch:=omega)only[go_sem,seval,wqq]
end Go.Eng
namespace Go.Eng
theorem zkL {z:Nat→Int} (hz:∀e,tlen (z e).natAbs≤9000):∀i,tlen (gN z i)≤9000
 | 0=>by show tlen 0≤9000;rw[zaE];decide
 | i+1=>by
  show tlen (Nat.gcd (gN z i) (z i).natAbs)≤9000
  by_cases h:gN z i=0
  ·rw[h,Nat.gcd_zero_left];exact hz i
  ·exact Nat.le_trans (zaA (Nat.gcd_le_left _ (Nat.pos_of_ne_zero h))) (zkL hz i)
theorem gF (n:Nat):PV.ag [.b false,T n]=nP ((n:Nat):Int):=by
 unfold nP
 rw[Int.natAbs_natCast,show decide (((n:Nat):Int)<0)=false from decide_eq_false (by omega)]
theorem gF' (n:Nat):PV.ag [.b false,T (Int.natAbs ((n:Nat):Int))]=nP ((n:Nat):Int):=by rw[Int.natAbs_natCast,gF]
set_option maxHeartbeats 8000000 in
theorem zj7 {z:Nat→Int} (hz:∀e,tlen (z e).natAbs≤9000) (hg:gN z 9≠0):pf E0 353 [nM z]=some (.tu [pI (nfP z),.i .i64 (nfE z)]):=by
 have fr9:=zfd z 9
 have s9:fN z 9=1∨fN z 9 = -1:=by
  rcases fr9 with h|h
  ·exact(hg (zew z 9 h)).elim
  ·exact h
 have bad:∀e,e<9→¬(-1073741824≤z e/gN z 9∧z e/gN z 9≤1073741824)→nfP z=zI∧nfE z=5:=fun e he h=>by
  have hn:¬okN z:=fun q=>h (q e he)
  exact⟨by unfold nfP;rw[if_neg hn],by unfold nfE;rw[if_neg hn]⟩
 have good:okN z→nfP z=(fun e=>z e/gN z 9*fN z 9)∧nfE z=0:=fun h=>⟨by unfold nfP;rw[if_pos h],by unfold nfE;rw[if_pos h]⟩
 generalize nfP z=P at *
 generalize nfE z=E at *
 have gl:=zkL hz
 have gcd:∀e,pf E0 125 [nP ((gN z e:Nat):Int),nP (z e)]=some (nP ((gN z (e+1):Nat):Int)):=fun e=>by
  have:=zoe ((gN z e:Nat):Int) (z e) (by rw[Int.natAbs_natCast];exact Nat.lt_of_le_of_lt (gl e) (by decide)) (Nat.lt_of_le_of_lt (hz e) (by decide))
  rw[Int.natAbs_natCast] at this
  exact this
 have o0:=zck 0 (by decide)
 refine zaf (xf:=zvF) rfl (by simp[zvF]) ?_
 simp only[zvF]
 simp(disch:=omega)only[go_sem,seval,wqq,o0]
 refine zas zwS.eq_1 (fun(i:Nat) fr M=>i≤9∧fr 1=.p 0 0∧fr 2=.p 1 0∧fr 4=.p 2 0∧fr 5=.b (decide (fN z i<0))∧fr 6=.b (decide (fN z i≠0))∧fr 7=(PV.i .i64 ((i:Nat):Int))∧∃b v G,M=some ⟨cN z,true,0⟩::some ⟨cQ 0 zI,true,b⟩::some ⟨[.b false,T (gN z i)],true,v⟩::G) (fun i=>9-i) ?_ 0 ⟨by omega,by simp only[go_sem,seval],by simp only[go_sem,seval],by simp only[go_sem,seval],by simp only[go_sem,seval];try rfl,by simp only[go_sem,seval];try rfl,by simp only[go_sem,seval],_,_,[],rfl⟩
 rintro i fr M ⟨hi,f1,f2,f4,f5,f6,f7,b,v,G,rfl⟩ ih
 rcases Nat.lt_or_ge i 9 with h9|h9
 ·by_cases h0:fN z i=0
  ·have hs:fN z (i+1)=cmpI (z i) 0:=by show (if fN z i=0 then _ else _)=_;rw[if_pos h0]
   have f5':fr 5=.b false:=by rw[f5,h0];rfl
   have f6':fr 6=.b false:=by rw[f6,h0];rfl
   by_cases hz0:z i=0
   ·have hc:cmpI (z i) 0=0:=by rw[hz0];rfl
    have tl:((tlen (z i).natAbs:Int)>0)=False:=eq_false (by rw[hz0,Int.natAbs_zero,zaE];decide)
    obtain rfl|rfl|rfl|rfl|rfl|rfl|rfl|rfl|rfl:=zdc h9
    ·have g1:=gcd 0
     simp(disch:=omega)only[go_sem,seval,wqq,f1,f2,f4,f5',f6',f7,zag,gF,gF',g1,tl,mG,mG0,sG,sG0,lG,lqq]
     exact ih 1 _ _ (by omega) ⟨by omega,by simp only[go_sem,seval,f1],by simp only[go_sem,seval,f2],by simp only[go_sem,seval,f4],by rw[hs,hc];simp only[go_sem,seval,f5'];try rfl,by rw[hs,hc];simp only[go_sem,seval,f6'];try rfl,by simp only[go_sem,seval],_,_,_,by simp only[Int.natAbs_natCast];rfl⟩
    ·have g1:=gcd 1
     simp(disch:=omega)only[go_sem,seval,wqq,f1,f2,f4,f5',f6',f7,zag,gF,gF',g1,tl,mG,mG0,sG,sG0,lG,lqq]
     exact ih 2 _ _ (by omega) ⟨by omega,by simp only[go_sem,seval,f1],by simp only[go_sem,seval,f2],by simp only[go_sem,seval,f4],by rw[hs,hc];simp only[go_sem,seval,f5'];try rfl,by rw[hs,hc];simp only[go_sem,seval,f6'];try rfl,by simp only[go_sem,seval],_,_,_,by simp only[Int.natAbs_natCast];rfl⟩
    ·have g1:=gcd 2
     simp(disch:=omega)only[go_sem,seval,wqq,f1,f2,f4,f5',f6',f7,zag,gF,gF',g1,tl,mG,mG0,sG,sG0,lG,lqq]
     exact ih 3 _ _ (by omega) ⟨by omega,by simp only[go_sem,seval,f1],by simp only[go_sem,seval,f2],by simp only[go_sem,seval,f4],by rw[hs,hc];simp only[go_sem,seval,f5'];try rfl,by rw[hs,hc];simp only[go_sem,seval,f6'];try rfl,by simp only[go_sem,seval],_,_,_,by simp only[Int.natAbs_natCast];rfl⟩
    ·have g1:=gcd 3
     simp(disch:=omega)only[go_sem,seval,wqq,f1,f2,f4,f5',f6',f7,zag,gF,gF',g1,tl,mG,mG0,sG,sG0,lG,lqq]
     exact ih 4 _ _ (by omega) ⟨by omega,by simp only[go_sem,seval,f1],by simp only[go_sem,seval,f2],by simp only[go_sem,seval,f4],by rw[hs,hc];simp only[go_sem,seval,f5'];try rfl,by rw[hs,hc];simp only[go_sem,seval,f6'];try rfl,by simp only[go_sem,seval],_,_,_,by simp only[Int.natAbs_natCast];rfl⟩
    ·have g1:=gcd 4
     simp(disch:=omega)only[go_sem,seval,wqq,f1,f2,f4,f5',f6',f7,zag,gF,gF',g1,tl,mG,mG0,sG,sG0,lG,lqq]
     exact ih 5 _ _ (by omega) ⟨by omega,by simp only[go_sem,seval,f1],by simp only[go_sem,seval,f2],by simp only[go_sem,seval,f4],by rw[hs,hc];simp only[go_sem,seval,f5'];try rfl,by rw[hs,hc];simp only[go_sem,seval,f6'];try rfl,by simp only[go_sem,seval],_,_,_,by simp only[Int.natAbs_natCast];rfl⟩
    ·have g1:=gcd 5
     simp(disch:=omega)only[go_sem,seval,wqq,f1,f2,f4,f5',f6',f7,zag,gF,gF',g1,tl,mG,mG0,sG,sG0,lG,lqq]
     exact ih 6 _ _ (by omega) ⟨by omega,by simp only[go_sem,seval,f1],by simp only[go_sem,seval,f2],by simp only[go_sem,seval,f4],by rw[hs,hc];simp only[go_sem,seval,f5'];try rfl,by rw[hs,hc];simp only[go_sem,seval,f6'];try rfl,by simp only[go_sem,seval],_,_,_,by simp only[Int.natAbs_natCast];rfl⟩
    ·have g1:=gcd 6
     simp(disch:=omega)only[go_sem,seval,wqq,f1,f2,f4,f5',f6',f7,zag,gF,gF',g1,tl,mG,mG0,sG,sG0,lG,lqq]
     exact ih 7 _ _ (by omega) ⟨by omega,by simp only[go_sem,seval,f1],by simp only[go_sem,seval,f2],by simp only[go_sem,seval,f4],by rw[hs,hc];simp only[go_sem,seval,f5'];try rfl,by rw[hs,hc];simp only[go_sem,seval,f6'];try rfl,by simp only[go_sem,seval],_,_,_,by simp only[Int.natAbs_natCast];rfl⟩
    ·have g1:=gcd 7
     simp(disch:=omega)only[go_sem,seval,wqq,f1,f2,f4,f5',f6',f7,zag,gF,gF',g1,tl,mG,mG0,sG,sG0,lG,lqq]
     exact ih 8 _ _ (by omega) ⟨by omega,by simp only[go_sem,seval,f1],by simp only[go_sem,seval,f2],by simp only[go_sem,seval,f4],by rw[hs,hc];simp only[go_sem,seval,f5'];try rfl,by rw[hs,hc];simp only[go_sem,seval,f6'];try rfl,by simp only[go_sem,seval],_,_,_,by simp only[Int.natAbs_natCast];rfl⟩
    ·have g1:=gcd 8
     simp(disch:=omega)only[go_sem,seval,wqq,f1,f2,f4,f5',f6',f7,zag,gF,gF',g1,tl,mG,mG0,sG,sG0,lG,lqq]
     exact ih 9 _ _ (by omega) ⟨by omega,by simp only[go_sem,seval,f1],by simp only[go_sem,seval,f2],by simp only[go_sem,seval,f4],by rw[hs,hc];simp only[go_sem,seval,f5'];try rfl,by rw[hs,hc];simp only[go_sem,seval,f6'];try rfl,by simp only[go_sem,seval],_,_,_,by simp only[Int.natAbs_natCast];rfl⟩
   ·have tl:((tlen (z i).natAbs:Int)>0)=True:=eq_true (by have:=zbg (v:=(z i).natAbs) (by omega);omega)
    have c1:decide (cmpI (z i) 0<0)=decide (z i<0):=decide_eq_decide.2 (by rw[zbW])
    have c2:decide (cmpI (z i) 0≠0)=true:=decide_eq_true (by rw[ne_eq,zar];exact hz0)
    obtain rfl|rfl|rfl|rfl|rfl|rfl|rfl|rfl|rfl:=zdc h9
    ·have g1:=gcd 0
     simp(disch:=omega)only[go_sem,seval,wqq,f1,f2,f4,f5',f6',f7,zag,gF,gF',g1,tl,mG,mG0,sG,sG0,lG,lqq]
     exact ih 1 _ _ (by omega) ⟨by omega,by simp only[go_sem,seval,f1],by simp only[go_sem,seval,f2],by simp only[go_sem,seval,f4],by rw[hs,c1];simp only[go_sem,seval],by rw[hs,c2];simp only[go_sem,seval],by simp only[go_sem,seval],_,_,_,by simp only[Int.natAbs_natCast];rfl⟩
    ·have g1:=gcd 1
     simp(disch:=omega)only[go_sem,seval,wqq,f1,f2,f4,f5',f6',f7,zag,gF,gF',g1,tl,mG,mG0,sG,sG0,lG,lqq]
     exact ih 2 _ _ (by omega) ⟨by omega,by simp only[go_sem,seval,f1],by simp only[go_sem,seval,f2],by simp only[go_sem,seval,f4],by rw[hs,c1];simp only[go_sem,seval],by rw[hs,c2];simp only[go_sem,seval],by simp only[go_sem,seval],_,_,_,by simp only[Int.natAbs_natCast];rfl⟩
    ·have g1:=gcd 2
     simp(disch:=omega)only[go_sem,seval,wqq,f1,f2,f4,f5',f6',f7,zag,gF,gF',g1,tl,mG,mG0,sG,sG0,lG,lqq]
     exact ih 3 _ _ (by omega) ⟨by omega,by simp only[go_sem,seval,f1],by simp only[go_sem,seval,f2],by simp only[go_sem,seval,f4],by rw[hs,c1];simp only[go_sem,seval],by rw[hs,c2];simp only[go_sem,seval],by simp only[go_sem,seval],_,_,_,by simp only[Int.natAbs_natCast];rfl⟩
    ·have g1:=gcd 3
     simp(disch:=omega)only[go_sem,seval,wqq,f1,f2,f4,f5',f6',f7,zag,gF,gF',g1,tl,mG,mG0,sG,sG0,lG,lqq]
     exact ih 4 _ _ (by omega) ⟨by omega,by simp only[go_sem,seval,f1],by simp only[go_sem,seval,f2],by simp only[go_sem,seval,f4],by rw[hs,c1];simp only[go_sem,seval],by rw[hs,c2];simp only[go_sem,seval],by simp only[go_sem,seval],_,_,_,by simp only[Int.natAbs_natCast];rfl⟩
    ·have g1:=gcd 4
     simp(disch:=omega)only[go_sem,seval,wqq,f1,f2,f4,f5',f6',f7,zag,gF,gF',g1,tl,mG,mG0,sG,sG0,lG,lqq]
     exact ih 5 _ _ (by omega) ⟨by omega,by simp only[go_sem,seval,f1],by simp only[go_sem,seval,f2],by simp only[go_sem,seval,f4],by rw[hs,c1];simp only[go_sem,seval],by rw[hs,c2];simp only[go_sem,seval],by simp only[go_sem,seval],_,_,_,by simp only[Int.natAbs_natCast];rfl⟩
    ·have g1:=gcd 5
     simp(disch:=omega)only[go_sem,seval,wqq,f1,f2,f4,f5',f6',f7,zag,gF,gF',g1,tl,mG,mG0,sG,sG0,lG,lqq]
     exact ih 6 _ _ (by omega) ⟨by omega,by simp only[go_sem,seval,f1],by simp only[go_sem,seval,f2],by simp only[go_sem,seval,f4],by rw[hs,c1];simp only[go_sem,seval],by rw[hs,c2];simp only[go_sem,seval],by simp only[go_sem,seval],_,_,_,by simp only[Int.natAbs_natCast];rfl⟩
    ·have g1:=gcd 6
     simp(disch:=omega)only[go_sem,seval,wqq,f1,f2,f4,f5',f6',f7,zag,gF,gF',g1,tl,mG,mG0,sG,sG0,lG,lqq]
     exact ih 7 _ _ (by omega) ⟨by omega,by simp only[go_sem,seval,f1],by simp only[go_sem,seval,f2],by simp only[go_sem,seval,f4],by rw[hs,c1];simp only[go_sem,seval],by rw[hs,c2];simp only[go_sem,seval],by simp only[go_sem,seval],_,_,_,by simp only[Int.natAbs_natCast];rfl⟩
    ·have g1:=gcd 7
     simp(disch:=omega)only[go_sem,seval,wqq,f1,f2,f4,f5',f6',f7,zag,gF,gF',g1,tl,mG,mG0,sG,sG0,lG,lqq]
     exact ih 8 _ _ (by omega) ⟨by omega,by simp only[go_sem,seval,f1],by simp only[go_sem,seval,f2],by simp only[go_sem,seval,f4],by rw[hs,c1];simp only[go_sem,seval],by rw[hs,c2];simp only[go_sem,seval],by simp only[go_sem,seval],_,_,_,by simp only[Int.natAbs_natCast];rfl⟩
    ·have g1:=gcd 8
     simp(disch:=omega)only[go_sem,seval,wqq,f1,f2,f4,f5',f6',f7,zag,gF,gF',g1,tl,mG,mG0,sG,sG0,lG,lqq]
     exact ih 9 _ _ (by omega) ⟨by omega,by simp only[go_sem,seval,f1],by simp only[go_sem,seval,f2],by simp only[go_sem,seval,f4],by rw[hs,c1];simp only[go_sem,seval],by rw[hs,c2];simp only[go_sem,seval],by simp only[go_sem,seval],_,_,_,by simp only[Int.natAbs_natCast];rfl⟩
  ·have hs:fN z (i+1)=fN z i:=by show (if fN z i=0 then _ else _)=_;rw[if_neg h0]
   have f6':fr 6=.b true:=by rw[f6];congr 1;exact decide_eq_true h0
   obtain rfl|rfl|rfl|rfl|rfl|rfl|rfl|rfl|rfl:=zdc h9
   ·have g1:=gcd 0
    simp(disch:=omega)only[go_sem,seval,wqq,f1,f2,f4,f5,f6',f7,zag,gF,gF',g1,mG,mG0,sG,sG0,lG,lqq]
    exact ih 1 _ _ (by omega) ⟨by omega,by simp only[go_sem,seval,f1],by simp only[go_sem,seval,f2],by simp only[go_sem,seval,f4],by rw[hs];simp only[go_sem,seval,f5],by rw[hs];simp only[go_sem,seval,f6];try rfl,by simp only[go_sem,seval],_,_,_,by simp only[Int.natAbs_natCast];rfl⟩
   ·have g1:=gcd 1
    simp(disch:=omega)only[go_sem,seval,wqq,f1,f2,f4,f5,f6',f7,zag,gF,gF',g1,mG,mG0,sG,sG0,lG,lqq]
    exact ih 2 _ _ (by omega) ⟨by omega,by simp only[go_sem,seval,f1],by simp only[go_sem,seval,f2],by simp only[go_sem,seval,f4],by rw[hs];simp only[go_sem,seval,f5],by rw[hs];simp only[go_sem,seval,f6];try rfl,by simp only[go_sem,seval],_,_,_,by simp only[Int.natAbs_natCast];rfl⟩
   ·have g1:=gcd 2
    simp(disch:=omega)only[go_sem,seval,wqq,f1,f2,f4,f5,f6',f7,zag,gF,gF',g1,mG,mG0,sG,sG0,lG,lqq]
    exact ih 3 _ _ (by omega) ⟨by omega,by simp only[go_sem,seval,f1],by simp only[go_sem,seval,f2],by simp only[go_sem,seval,f4],by rw[hs];simp only[go_sem,seval,f5],by rw[hs];simp only[go_sem,seval,f6];try rfl,by simp only[go_sem,seval],_,_,_,by simp only[Int.natAbs_natCast];rfl⟩
   ·have g1:=gcd 3
    simp(disch:=omega)only[go_sem,seval,wqq,f1,f2,f4,f5,f6',f7,zag,gF,gF',g1,mG,mG0,sG,sG0,lG,lqq]
    exact ih 4 _ _ (by omega) ⟨by omega,by simp only[go_sem,seval,f1],by simp only[go_sem,seval,f2],by simp only[go_sem,seval,f4],by rw[hs];simp only[go_sem,seval,f5],by rw[hs];simp only[go_sem,seval,f6];try rfl,by simp only[go_sem,seval],_,_,_,by simp only[Int.natAbs_natCast];rfl⟩
   ·have g1:=gcd 4
    simp(disch:=omega)only[go_sem,seval,wqq,f1,f2,f4,f5,f6',f7,zag,gF,gF',g1,mG,mG0,sG,sG0,lG,lqq]
    exact ih 5 _ _ (by omega) ⟨by omega,by simp only[go_sem,seval,f1],by simp only[go_sem,seval,f2],by simp only[go_sem,seval,f4],by rw[hs];simp only[go_sem,seval,f5],by rw[hs];simp only[go_sem,seval,f6];try rfl,by simp only[go_sem,seval],_,_,_,by simp only[Int.natAbs_natCast];rfl⟩
   ·have g1:=gcd 5
    simp(disch:=omega)only[go_sem,seval,wqq,f1,f2,f4,f5,f6',f7,zag,gF,gF',g1,mG,mG0,sG,sG0,lG,lqq]
    exact ih 6 _ _ (by omega) ⟨by omega,by simp only[go_sem,seval,f1],by simp only[go_sem,seval,f2],by simp only[go_sem,seval,f4],by rw[hs];simp only[go_sem,seval,f5],by rw[hs];simp only[go_sem,seval,f6];try rfl,by simp only[go_sem,seval],_,_,_,by simp only[Int.natAbs_natCast];rfl⟩
   ·have g1:=gcd 6
    simp(disch:=omega)only[go_sem,seval,wqq,f1,f2,f4,f5,f6',f7,zag,gF,gF',g1,mG,mG0,sG,sG0,lG,lqq]
    exact ih 7 _ _ (by omega) ⟨by omega,by simp only[go_sem,seval,f1],by simp only[go_sem,seval,f2],by simp only[go_sem,seval,f4],by rw[hs];simp only[go_sem,seval,f5],by rw[hs];simp only[go_sem,seval,f6];try rfl,by simp only[go_sem,seval],_,_,_,by simp only[Int.natAbs_natCast];rfl⟩
   ·have g1:=gcd 7
    simp(disch:=omega)only[go_sem,seval,wqq,f1,f2,f4,f5,f6',f7,zag,gF,gF',g1,mG,mG0,sG,sG0,lG,lqq]
    exact ih 8 _ _ (by omega) ⟨by omega,by simp only[go_sem,seval,f1],by simp only[go_sem,seval,f2],by simp only[go_sem,seval,f4],by rw[hs];simp only[go_sem,seval,f5],by rw[hs];simp only[go_sem,seval,f6];try rfl,by simp only[go_sem,seval],_,_,_,by simp only[Int.natAbs_natCast];rfl⟩
   ·have g1:=gcd 8
    simp(disch:=omega)only[go_sem,seval,wqq,f1,f2,f4,f5,f6',f7,zag,gF,gF',g1,mG,mG0,sG,sG0,lG,lqq]
    exact ih 9 _ _ (by omega) ⟨by omega,by simp only[go_sem,seval,f1],by simp only[go_sem,seval,f2],by simp only[go_sem,seval,f4],by rw[hs];simp only[go_sem,seval,f5],by rw[hs];simp only[go_sem,seval,f6];try rfl,by simp only[go_sem,seval],_,_,_,by simp only[Int.natAbs_natCast];rfl⟩
 ·obtain rfl:i=9:=by omega
  clear ih
  simp(disch:=omega)only[go_sem,seval,wqq,f1,f2,f4,f5,f6,f7,mG,mG0,sG,sG0,lG,lqq]
  have hgl:=gl 9
  have gn0:((gN z 9:Nat):Int)≠0:=by omega
  have z9i:[PV.i .i64 0,PV.i .i64 0,PV.i .i64 0,PV.i .i64 0,PV.i .i64 0,PV.i .i64 0,PV.i .i64 0,PV.i .i64 0,PV.i .i64 0]=cI zI:=rfl
  refine zas zwQ.eq_1 (fun(i:Nat) fr M=>i≤9∧(∀e,e<i → -1073741824≤z e/gN z 9∧z e/gN z 9≤1073741824)∧fr 1=.p 0 0∧fr 2=.p 1 0∧fr 4=.p 2 0∧fr 5=.b (decide (fN z 9<0))∧fr 9=.p (G.length+3) 0∧fr 10=(PV.i .i64 ((i:Nat):Int))∧∃b v w R,M=some ⟨cN z,true,0⟩::some ⟨cQ 0 zI,true,b⟩::some ⟨[.b false,T (gN z 9)],true,v⟩::(G++(some ⟨cQ i (fun e=>z e/gN z 9*fN z 9),true,w⟩::R)))
   (fun i=>9-i) ?_ 0 ⟨by omega,fun e he=>by omega,by simp only[go_sem,seval,f1],by simp only[go_sem,seval,f2],by simp only[go_sem,seval,f4],by simp only[go_sem,seval,f5],by simp only[go_sem,seval],by simp only[go_sem,seval],b,v,_,[],rfl⟩
  clear b v f1 f2 f4 f5 f6 f7
  rintro i fr M ⟨hi,hlo,f1,f2,f4,f5,f9,f10,b,v,w,R,rfl⟩ ih
  rcases Nat.lt_or_ge i 9 with h9|h9
  ·have nxt:∀j,(-1073741824≤z j/gN z 9∧z j/gN z 9≤1073741824)→j=i→∀e,e<j+1 → -1073741824≤z e/gN z 9∧z e/gN z 9≤1073741824:=fun j hj hji e he=>by
    subst hji
    rcases Nat.lt_or_ge e j with h|h
    ·exact hlo e h
    ·obtain rfl:e=j:=by omega
     exact hj
   have lq:tlen (z i/gN z 9).natAbs≤9000:=Nat.le_trans (zaA (zgh _ _)) (hz i)
   have dv:=zkU (x:=z i) (y:=((gN z 9:Nat):Int)) gn0 (Nat.lt_of_le_of_lt (hz i) (by decide)) (by rw[Int.natAbs_natCast];omega)
   have ng:=zkV (z i/gN z 9) (by omega)
   have lq2:tlen (-(z i/gN z 9)).natAbs≤9000:=by rw[Int.natAbs_neg];exact lq
   have keyG:∀s:Int,(s=1∨s = -1)→pf E0 117 [nP (z i/gN z 9*s)]=some (.tu [.i .i64 (small (z i/gN z 9*s)),.b (isSmall (z i/gN z 9*s))]):=fun s hs=>by
    refine zj6 ?_
    rcases hs with rfl|rfl
    ·rw[Int.mul_one];omega
    ·rw[show z i/(gN z 9:Int) * -1 = -(z i/gN z 9) by omega];omega
   have key:=keyG _ s9
   clear keyG
   have neg1:fN z 9 = -1 → -(z i/(gN z 9:Int))=z i/gN z 9*fN z 9:=fun h=>by rw[h];omega
   have pos1:fN z 9=1→z i/(gN z 9:Int)=z i/gN z 9*fN z 9:=fun h=>by rw[h];omega
   have abs1:(-1073741824≤z i/gN z 9*fN z 9∧z i/gN z 9*fN z 9≤1073741824)↔(-1073741824≤z i/gN z 9∧z i/gN z 9≤1073741824):=by
    rcases s9 with h|h<;>rw[h]<;>omega
   generalize z i%((gN z 9:Nat):Int)=d2 at *
   by_cases hq : -1073741824≤z i/gN z 9∧z i/gN z 9≤1073741824
   ·have nx:=nxt i hq rfl
    have hqs:=abs1.2 hq
    have s1:isSmall (z i/gN z 9*fN z 9)=true:=by unfold isSmall;exact decide_eq_true (by omega)
    have s2:small (z i/gN z 9*fN z 9)=z i/gN z 9*fN z 9:=by unfold small;rw[s1];rfl
    rw[s1,s2] at key
    clear bad nxt
    generalize hQ:(fun e=>z e/(gN z 9:Int)*fN z 9)=Y at *
    have hY:z i/gN z 9*fN z 9=Y i:=by rw[←hQ]
    rw[hY] at hqs key neg1 pos1
    have t1:(Y i < -1073741824)=False:=eq_false (by omega)
    have t2:(Y i>1073741824)=False:=eq_false (by omega)
    rcases s9 with h|h
    ·have p1:=pos1 h
     have f5:fr 5=.b false:=by rw[f5,h];rfl
     rw[p1] at dv
     have f5':decide (fN z 9<0)=false:=by rw[h];rfl
     obtain rfl|rfl|rfl|rfl|rfl|rfl|rfl|rfl|rfl:=zdc h9
     ·simp(disch:=omega)only[go_sem,seval,wqq,f1,f2,f4,f5,f9,f10,zag,gF,gF',dv,key,t1,t2,mG,mG0,sG,sG0,lG,lqq]
      exact ih 1 _ _ (by omega) ⟨by omega,nx,by simp only[go_sem,seval,f1],by simp only[go_sem,seval,f2],by simp only[go_sem,seval,f4],by rw[f5'];simp only[go_sem,seval,f5],by simp only[go_sem,seval,f9],by simp only[go_sem,seval],b,v,_,_,rfl⟩
     ·simp(disch:=omega)only[go_sem,seval,wqq,f1,f2,f4,f5,f9,f10,zag,gF,gF',dv,key,t1,t2,mG,mG0,sG,sG0,lG,lqq]
      exact ih 2 _ _ (by omega) ⟨by omega,nx,by simp only[go_sem,seval,f1],by simp only[go_sem,seval,f2],by simp only[go_sem,seval,f4],by rw[f5'];simp only[go_sem,seval,f5],by simp only[go_sem,seval,f9],by simp only[go_sem,seval],b,v,_,_,rfl⟩
     ·simp(disch:=omega)only[go_sem,seval,wqq,f1,f2,f4,f5,f9,f10,zag,gF,gF',dv,key,t1,t2,mG,mG0,sG,sG0,lG,lqq]
      exact ih 3 _ _ (by omega) ⟨by omega,nx,by simp only[go_sem,seval,f1],by simp only[go_sem,seval,f2],by simp only[go_sem,seval,f4],by rw[f5'];simp only[go_sem,seval,f5],by simp only[go_sem,seval,f9],by simp only[go_sem,seval],b,v,_,_,rfl⟩
     ·simp(disch:=omega)only[go_sem,seval,wqq,f1,f2,f4,f5,f9,f10,zag,gF,gF',dv,key,t1,t2,mG,mG0,sG,sG0,lG,lqq]
      exact ih 4 _ _ (by omega) ⟨by omega,nx,by simp only[go_sem,seval,f1],by simp only[go_sem,seval,f2],by simp only[go_sem,seval,f4],by rw[f5'];simp only[go_sem,seval,f5],by simp only[go_sem,seval,f9],by simp only[go_sem,seval],b,v,_,_,rfl⟩
     ·simp(disch:=omega)only[go_sem,seval,wqq,f1,f2,f4,f5,f9,f10,zag,gF,gF',dv,key,t1,t2,mG,mG0,sG,sG0,lG,lqq]
      exact ih 5 _ _ (by omega) ⟨by omega,nx,by simp only[go_sem,seval,f1],by simp only[go_sem,seval,f2],by simp only[go_sem,seval,f4],by rw[f5'];simp only[go_sem,seval,f5],by simp only[go_sem,seval,f9],by simp only[go_sem,seval],b,v,_,_,rfl⟩
     ·simp(disch:=omega)only[go_sem,seval,wqq,f1,f2,f4,f5,f9,f10,zag,gF,gF',dv,key,t1,t2,mG,mG0,sG,sG0,lG,lqq]
      exact ih 6 _ _ (by omega) ⟨by omega,nx,by simp only[go_sem,seval,f1],by simp only[go_sem,seval,f2],by simp only[go_sem,seval,f4],by rw[f5'];simp only[go_sem,seval,f5],by simp only[go_sem,seval,f9],by simp only[go_sem,seval],b,v,_,_,rfl⟩
     ·simp(disch:=omega)only[go_sem,seval,wqq,f1,f2,f4,f5,f9,f10,zag,gF,gF',dv,key,t1,t2,mG,mG0,sG,sG0,lG,lqq]
      exact ih 7 _ _ (by omega) ⟨by omega,nx,by simp only[go_sem,seval,f1],by simp only[go_sem,seval,f2],by simp only[go_sem,seval,f4],by rw[f5'];simp only[go_sem,seval,f5],by simp only[go_sem,seval,f9],by simp only[go_sem,seval],b,v,_,_,rfl⟩
     ·simp(disch:=omega)only[go_sem,seval,wqq,f1,f2,f4,f5,f9,f10,zag,gF,gF',dv,key,t1,t2,mG,mG0,sG,sG0,lG,lqq]
      exact ih 8 _ _ (by omega) ⟨by omega,nx,by simp only[go_sem,seval,f1],by simp only[go_sem,seval,f2],by simp only[go_sem,seval,f4],by rw[f5'];simp only[go_sem,seval,f5],by simp only[go_sem,seval,f9],by simp only[go_sem,seval],b,v,_,_,rfl⟩
     ·simp(disch:=omega)only[go_sem,seval,wqq,f1,f2,f4,f5,f9,f10,zag,gF,gF',dv,key,t1,t2,mG,mG0,sG,sG0,lG,lqq]
      exact ih 9 _ _ (by omega) ⟨by omega,nx,by simp only[go_sem,seval,f1],by simp only[go_sem,seval,f2],by simp only[go_sem,seval,f4],by rw[f5'];simp only[go_sem,seval,f5],by simp only[go_sem,seval,f9],by simp only[go_sem,seval],b,v,_,_,rfl⟩
    ·have p1:=neg1 h
     have f5:fr 5=.b true:=by rw[f5,h];rfl
     rw[p1] at ng
     have f5':decide (fN z 9<0)=true:=by rw[h];rfl
     generalize z i/((gN z 9:Nat):Int)=q at *
     obtain rfl|rfl|rfl|rfl|rfl|rfl|rfl|rfl|rfl:=zdc h9
     ·simp(disch:=omega)only[go_sem,seval,wqq,f1,f2,f4,f5,f9,f10,zag,gF,gF',dv,ng,key,t1,t2,mG,mG0,sG,sG0,lG,lqq]
      exact ih 1 _ _ (by omega) ⟨by omega,nx,by simp only[go_sem,seval,f1],by simp only[go_sem,seval,f2],by simp only[go_sem,seval,f4],by rw[f5'];simp only[go_sem,seval,f5],by simp only[go_sem,seval,f9],by simp only[go_sem,seval],b,v,_,_,rfl⟩
     ·simp(disch:=omega)only[go_sem,seval,wqq,f1,f2,f4,f5,f9,f10,zag,gF,gF',dv,ng,key,t1,t2,mG,mG0,sG,sG0,lG,lqq]
      exact ih 2 _ _ (by omega) ⟨by omega,nx,by simp only[go_sem,seval,f1],by simp only[go_sem,seval,f2],by simp only[go_sem,seval,f4],by rw[f5'];simp only[go_sem,seval,f5],by simp only[go_sem,seval,f9],by simp only[go_sem,seval],b,v,_,_,rfl⟩
     ·simp(disch:=omega)only[go_sem,seval,wqq,f1,f2,f4,f5,f9,f10,zag,gF,gF',dv,ng,key,t1,t2,mG,mG0,sG,sG0,lG,lqq]
      exact ih 3 _ _ (by omega) ⟨by omega,nx,by simp only[go_sem,seval,f1],by simp only[go_sem,seval,f2],by simp only[go_sem,seval,f4],by rw[f5'];simp only[go_sem,seval,f5],by simp only[go_sem,seval,f9],by simp only[go_sem,seval],b,v,_,_,rfl⟩
     ·simp(disch:=omega)only[go_sem,seval,wqq,f1,f2,f4,f5,f9,f10,zag,gF,gF',dv,ng,key,t1,t2,mG,mG0,sG,sG0,lG,lqq]
      exact ih 4 _ _ (by omega) ⟨by omega,nx,by simp only[go_sem,seval,f1],by simp only[go_sem,seval,f2],by simp only[go_sem,seval,f4],by rw[f5'];simp only[go_sem,seval,f5],by simp only[go_sem,seval,f9],by simp only[go_sem,seval],b,v,_,_,rfl⟩
     ·simp(disch:=omega)only[go_sem,seval,wqq,f1,f2,f4,f5,f9,f10,zag,gF,gF',dv,ng,key,t1,t2,mG,mG0,sG,sG0,lG,lqq]
      exact ih 5 _ _ (by omega) ⟨by omega,nx,by simp only[go_sem,seval,f1],by simp only[go_sem,seval,f2],by simp only[go_sem,seval,f4],by rw[f5'];simp only[go_sem,seval,f5],by simp only[go_sem,seval,f9],by simp only[go_sem,seval],b,v,_,_,rfl⟩
     ·simp(disch:=omega)only[go_sem,seval,wqq,f1,f2,f4,f5,f9,f10,zag,gF,gF',dv,ng,key,t1,t2,mG,mG0,sG,sG0,lG,lqq]
      exact ih 6 _ _ (by omega) ⟨by omega,nx,by simp only[go_sem,seval,f1],by simp only[go_sem,seval,f2],by simp only[go_sem,seval,f4],by rw[f5'];simp only[go_sem,seval,f5],by simp only[go_sem,seval,f9],by simp only[go_sem,seval],b,v,_,_,rfl⟩
     ·simp(disch:=omega)only[go_sem,seval,wqq,f1,f2,f4,f5,f9,f10,zag,gF,gF',dv,ng,key,t1,t2,mG,mG0,sG,sG0,lG,lqq]
      exact ih 7 _ _ (by omega) ⟨by omega,nx,by simp only[go_sem,seval,f1],by simp only[go_sem,seval,f2],by simp only[go_sem,seval,f4],by rw[f5'];simp only[go_sem,seval,f5],by simp only[go_sem,seval,f9],by simp only[go_sem,seval],b,v,_,_,rfl⟩
     ·simp(disch:=omega)only[go_sem,seval,wqq,f1,f2,f4,f5,f9,f10,zag,gF,gF',dv,ng,key,t1,t2,mG,mG0,sG,sG0,lG,lqq]
      exact ih 8 _ _ (by omega) ⟨by omega,nx,by simp only[go_sem,seval,f1],by simp only[go_sem,seval,f2],by simp only[go_sem,seval,f4],by rw[f5'];simp only[go_sem,seval,f5],by simp only[go_sem,seval,f9],by simp only[go_sem,seval],b,v,_,_,rfl⟩
     ·simp(disch:=omega)only[go_sem,seval,wqq,f1,f2,f4,f5,f9,f10,zag,gF,gF',dv,ng,key,t1,t2,mG,mG0,sG,sG0,lG,lqq]
      exact ih 9 _ _ (by omega) ⟨by omega,nx,by simp only[go_sem,seval,f1],by simp only[go_sem,seval,f2],by simp only[go_sem,seval,f4],by rw[f5'];simp only[go_sem,seval,f5],by simp only[go_sem,seval,f9],by simp only[go_sem,seval],b,v,_,_,rfl⟩
   ·obtain⟨rfl,rfl⟩:=bad i h9 hq
    have hqs:¬(-1073741824≤z i/gN z 9*fN z 9∧z i/gN z 9*fN z 9≤1073741824):=fun q=>hq (abs1.1 q)
    clear ih good bad nxt abs1
    have sml:∀Q:Int,¬(-1073741824≤Q∧Q≤1073741824)→(isSmall Q=false∧small Q=0)∨(isSmall Q=true∧small Q=Q):=fun Q _=>by
     by_cases hs:isSmall Q=true
     ·exact .inr ⟨hs,by unfold small;rw[if_pos hs]⟩
     ·have hs:isSmall Q=false:=by simpa using hs
      exact .inl ⟨hs,by unfold small;rw[hs];rfl⟩
    rcases s9 with h|h
    ·have p1:=pos1 h
     have f5:fr 5=.b false:=by rw[f5,h];rfl
     rw[←p1] at key hqs
     generalize z i/((gN z 9:Nat):Int)=q at *
     rcases sml q hqs with⟨a1,a2⟩|⟨a1,a2⟩
     ·rw[a1,a2] at key
      obtain rfl|rfl|rfl|rfl|rfl|rfl|rfl|rfl|rfl:=zdc h9 <;>
      simp(disch:=omega)only[go_sem,seval,wqq,f1,f2,f4,f5,f9,f10,zag,gF,gF',dv,key,pI0,mG,mG0,sG,sG0,lG,lqq]
     ·rw[a1,a2] at key
      rcases zdZ (q < -1073741824) with t1|t1
      ·obtain rfl|rfl|rfl|rfl|rfl|rfl|rfl|rfl|rfl:=zdc h9 <;>
       simp(disch:=omega)only[go_sem,seval,wqq,f1,f2,f4,f5,f9,f10,zag,gF,gF',dv,key,t1,pI0,mG,mG0,sG,sG0,lG,lqq]
      ·have t2:(q>1073741824)=True:=eq_true (by have:=of_eq_false t1;omega)
       obtain rfl|rfl|rfl|rfl|rfl|rfl|rfl|rfl|rfl:=zdc h9 <;>
       simp(disch:=omega)only[go_sem,seval,wqq,f1,f2,f4,f5,f9,f10,zag,gF,gF',dv,key,t1,t2,pI0,mG,mG0,sG,sG0,lG,lqq]
    ·have p1:=neg1 h
     have f5:fr 5=.b true:=by rw[f5,h];rfl
     rw[p1] at ng
     generalize z i/((gN z 9:Nat):Int)*fN z 9=Q at *
     generalize z i/((gN z 9:Nat):Int)=q at *
     rcases sml Q hqs with⟨a1,a2⟩|⟨a1,a2⟩
     ·rw[a1,a2] at key
      obtain rfl|rfl|rfl|rfl|rfl|rfl|rfl|rfl|rfl:=zdc h9 <;>
      simp(disch:=omega)only[go_sem,seval,wqq,f1,f2,f4,f5,f9,f10,zag,gF,gF',dv,ng,key,pI0,mG,mG0,sG,sG0,lG,lqq]
     ·rw[a1,a2] at key
      rcases zdZ (Q < -1073741824) with t1|t1
      ·obtain rfl|rfl|rfl|rfl|rfl|rfl|rfl|rfl|rfl:=zdc h9 <;>
       simp(disch:=omega)only[go_sem,seval,wqq,f1,f2,f4,f5,f9,f10,zag,gF,gF',dv,ng,key,t1,pI0,mG,mG0,sG,sG0,lG,lqq]
      ·have t2:(Q>1073741824)=True:=eq_true (by have:=of_eq_false t1;omega)
       obtain rfl|rfl|rfl|rfl|rfl|rfl|rfl|rfl|rfl:=zdc h9 <;>
       simp(disch:=omega)only[go_sem,seval,wqq,f1,f2,f4,f5,f9,f10,zag,gF,gF',dv,ng,key,t1,t2,pI0,mG,mG0,sG,sG0,lG,lqq]
  ·obtain rfl:i=9:=by omega
   obtain⟨rfl,rfl⟩:=good hlo
   simp(disch:=omega)only[go_sem,seval,wqq,f1,f2,f4,f5,f9,f10,cQ9,mG,mG0,sG,sG0,lG,lqq]
end Go.Eng
namespace Go.Eng
noncomputable def pS (a b:Nat→WI) (i k:Nat):Nat→WI
 | 0=>wi0
 | j+1=>aW (pS a b i k j) (tW (a (3*i+j)) (b (3*j+k)))
noncomputable def prW (a b:Nat→WI):Nat→WI:=fun e=>pS a b (e/3) (e%3) 3
set_option maxHeartbeats 4000000 in
theorem zod (a b:Nat→WI):pf E0 316 [mW a,mW b]=some (mW (prW a b)):=by
 refine zaf (xf:=zvf) rfl (by simp[zvf]) ?_
 simp only[zvf]
 simp(disch:=omega)only[go_sem,seval,wqq]
 refine zas zwv.eq_1 (fun(i:Nat) fr M=>i≤3∧fr 2=.p 0 0∧fr 3=.p 1 0∧fr 4=.p 2 0∧fr 5=.p 3 0∧fr 9=(PV.i .i64 ((i:Nat):Int))∧∃c v,M=[some ⟨cW a,true,0⟩,some ⟨cW b,true,0⟩,some ⟨cP 0 zW,true,c⟩,some ⟨cS (sB (3*i)) (prW a b),true,v⟩]) (fun i=>3-i) ?_ 0 ⟨by omega,by simp only[go_sem,seval],by simp only[go_sem,seval],by simp only[go_sem,seval],by simp only[go_sem,seval],by simp only[go_sem,seval],_,_,rfl⟩
 rintro i fr M ⟨hi,f2,f3,f4,f5,f9,c,v,rfl⟩ ih
 rcases Nat.lt_or_ge i 3 with h3|h3
 ·have q1:((i:Int)<3)=True:=eq_true (by omega)
  simp(disch:=omega)only[go_sem,seval,wqq,f2,f3,f4,f5,f9,q1]
  refine zas zwB.eq_1 (fun(k:Nat) fr M=>k≤3∧fr 2=.p 0 0∧fr 3=.p 1 0∧fr 4=.p 2 0∧fr 5=.p 3 0∧fr 9=(PV.i .i64 ((i:Nat):Int))∧fr 6=(PV.i .i64 ((i:Nat):Int))∧fr 12=(PV.i .i64 ((k:Nat):Int))∧∃c v,M=[some ⟨cW a,true,0⟩,some ⟨cW b,true,0⟩,some ⟨cP 0 zW,true,c⟩,some ⟨cS (sB (3*i+k)) (prW a b),true,v⟩]) (fun k=>3-k) ?_ 0 ⟨by omega,by simp only[go_sem,seval,f2],by simp only[go_sem,seval,f3],by simp only[go_sem,seval,f4],by simp only[go_sem,seval,f5],by simp only[go_sem,seval,f9],by simp only[go_sem,seval],by simp only[go_sem,seval],_,_,rfl⟩
  rintro k fr M ⟨hk,f2,f3,f4,f5,f9,f6,f12,c,v,rfl⟩ ih2
  rcases Nat.lt_or_ge k 3 with h4|h4
  ·have q2:((k:Int)<3)=True:=eq_true (by omega)
   obtain rfl|rfl|rfl:=zdi h3<;>obtain rfl|rfl|rfl:=zdi h4
   ·have t1:=zai (a 0) (b 0)
    have t2:=zai (a 1) (b 3)
    have t3:=zai (a 2) (b 6)
    have s1:=zaz wi0 (tW (a 0) (b 0))
    have s2:=zaz (aW wi0 (tW (a 0) (b 0))) (tW (a 1) (b 3))
    have s3:=zaz (aW (aW wi0 (tW (a 0) (b 0))) (tW (a 1) (b 3))) (tW (a 2) (b 6))
    simp(disch:=omega)only[go_sem,seval,wqq,f2,f3,f4,f5,f9,f6,f12]
    refine zaa zuv.eq_1 ?_
    simp(disch:=omega)only[go_sem,seval,wqq,f2,f3,f4,f5,f9,f6,f12]
    refine zah [26] rfl ?_ ?_
    ·simp(disch:=omega)only[go_sem,seval,wqq,f2,f3,f4,f5,f9,f6,f12,zad,zap,sB,t1,s1]
     exact⟨_,rfl,rfl⟩
    simp(disch:=omega)only[go_sem,seval,wqq,f2,f3,f4,f5,f9,f6,f12,zad,zap,sB,t1,s1]
    refine zaa zuv.eq_1 ?_
    simp(disch:=omega)only[go_sem,seval,wqq,f2,f3,f4,f5,f9,f6,f12]
    refine zah [26] rfl ?_ ?_
    ·simp(disch:=omega)only[go_sem,seval,wqq,f2,f3,f4,f5,f9,f6,f12,zad,zap,sB,t2,s2]
     exact⟨_,rfl,rfl⟩
    simp(disch:=omega)only[go_sem,seval,wqq,f2,f3,f4,f5,f9,f6,f12,zad,zap,sB,t2,s2]
    refine zaa zuv.eq_1 ?_
    simp(disch:=omega)only[go_sem,seval,wqq,f2,f3,f4,f5,f9,f6,f12]
    refine zah [26] rfl ?_ ?_
    ·simp(disch:=omega)only[go_sem,seval,wqq,f2,f3,f4,f5,f9,f6,f12,zad,zap,sB,t3,s3]
     exact⟨_,rfl,rfl⟩
    simp(disch:=omega)only[go_sem,seval,wqq,f2,f3,f4,f5,f9,f6,f12,zad,zap,sB,t3,s3]
    refine zaa zuv.eq_1 ?_
    simp(disch:=omega)only[go_sem,seval,wqq,f2,f3,f4,f5,f9,f6,f12]
    exact ih2 1 _ _ (by omega) ⟨by omega,by simp only[go_sem,seval,f2],by simp only[go_sem,seval,f3],by simp only[go_sem,seval,f4],by simp only[go_sem,seval,f5],by simp only[go_sem,seval,f9],by simp only[go_sem,seval,f6],by simp only[go_sem,seval],_,_,rfl⟩
   ·have t1:=zai (a 0) (b 1)
    have t2:=zai (a 1) (b 4)
    have t3:=zai (a 2) (b 7)
    have s1:=zaz wi0 (tW (a 0) (b 1))
    have s2:=zaz (aW wi0 (tW (a 0) (b 1))) (tW (a 1) (b 4))
    have s3:=zaz (aW (aW wi0 (tW (a 0) (b 1))) (tW (a 1) (b 4))) (tW (a 2) (b 7))
    simp(disch:=omega)only[go_sem,seval,wqq,f2,f3,f4,f5,f9,f6,f12]
    refine zaa zuv.eq_1 ?_
    simp(disch:=omega)only[go_sem,seval,wqq,f2,f3,f4,f5,f9,f6,f12]
    refine zah [26] rfl ?_ ?_
    ·simp(disch:=omega)only[go_sem,seval,wqq,f2,f3,f4,f5,f9,f6,f12,zad,zap,sB,t1,s1]
     exact⟨_,rfl,rfl⟩
    simp(disch:=omega)only[go_sem,seval,wqq,f2,f3,f4,f5,f9,f6,f12,zad,zap,sB,t1,s1]
    refine zaa zuv.eq_1 ?_
    simp(disch:=omega)only[go_sem,seval,wqq,f2,f3,f4,f5,f9,f6,f12]
    refine zah [26] rfl ?_ ?_
    ·simp(disch:=omega)only[go_sem,seval,wqq,f2,f3,f4,f5,f9,f6,f12,zad,zap,sB,t2,s2]
     exact⟨_,rfl,rfl⟩
    simp(disch:=omega)only[go_sem,seval,wqq,f2,f3,f4,f5,f9,f6,f12,zad,zap,sB,t2,s2]
    refine zaa zuv.eq_1 ?_
    simp(disch:=omega)only[go_sem,seval,wqq,f2,f3,f4,f5,f9,f6,f12]
    refine zah [26] rfl ?_ ?_
    ·simp(disch:=omega)only[go_sem,seval,wqq,f2,f3,f4,f5,f9,f6,f12,zad,zap,sB,t3,s3]
     exact⟨_,rfl,rfl⟩
    simp(disch:=omega)only[go_sem,seval,wqq,f2,f3,f4,f5,f9,f6,f12,zad,zap,sB,t3,s3]
    refine zaa zuv.eq_1 ?_
    simp(disch:=omega)only[go_sem,seval,wqq,f2,f3,f4,f5,f9,f6,f12]
    exact ih2 2 _ _ (by omega) ⟨by omega,by simp only[go_sem,seval,f2],by simp only[go_sem,seval,f3],by simp only[go_sem,seval,f4],by simp only[go_sem,seval,f5],by simp only[go_sem,seval,f9],by simp only[go_sem,seval,f6],by simp only[go_sem,seval],_,_,rfl⟩
   ·have t1:=zai (a 0) (b 2)
    have t2:=zai (a 1) (b 5)
    have t3:=zai (a 2) (b 8)
    have s1:=zaz wi0 (tW (a 0) (b 2))
    have s2:=zaz (aW wi0 (tW (a 0) (b 2))) (tW (a 1) (b 5))
    have s3:=zaz (aW (aW wi0 (tW (a 0) (b 2))) (tW (a 1) (b 5))) (tW (a 2) (b 8))
    simp(disch:=omega)only[go_sem,seval,wqq,f2,f3,f4,f5,f9,f6,f12]
    refine zaa zuv.eq_1 ?_
    simp(disch:=omega)only[go_sem,seval,wqq,f2,f3,f4,f5,f9,f6,f12]
    refine zah [26] rfl ?_ ?_
    ·simp(disch:=omega)only[go_sem,seval,wqq,f2,f3,f4,f5,f9,f6,f12,zad,zap,sB,t1,s1]
     exact⟨_,rfl,rfl⟩
    simp(disch:=omega)only[go_sem,seval,wqq,f2,f3,f4,f5,f9,f6,f12,zad,zap,sB,t1,s1]
    refine zaa zuv.eq_1 ?_
    simp(disch:=omega)only[go_sem,seval,wqq,f2,f3,f4,f5,f9,f6,f12]
    refine zah [26] rfl ?_ ?_
    ·simp(disch:=omega)only[go_sem,seval,wqq,f2,f3,f4,f5,f9,f6,f12,zad,zap,sB,t2,s2]
     exact⟨_,rfl,rfl⟩
    simp(disch:=omega)only[go_sem,seval,wqq,f2,f3,f4,f5,f9,f6,f12,zad,zap,sB,t2,s2]
    refine zaa zuv.eq_1 ?_
    simp(disch:=omega)only[go_sem,seval,wqq,f2,f3,f4,f5,f9,f6,f12]
    refine zah [26] rfl ?_ ?_
    ·simp(disch:=omega)only[go_sem,seval,wqq,f2,f3,f4,f5,f9,f6,f12,zad,zap,sB,t3,s3]
     exact⟨_,rfl,rfl⟩
    simp(disch:=omega)only[go_sem,seval,wqq,f2,f3,f4,f5,f9,f6,f12,zad,zap,sB,t3,s3]
    refine zaa zuv.eq_1 ?_
    simp(disch:=omega)only[go_sem,seval,wqq,f2,f3,f4,f5,f9,f6,f12]
    exact ih2 3 _ _ (by omega) ⟨by omega,by simp only[go_sem,seval,f2],by simp only[go_sem,seval,f3],by simp only[go_sem,seval,f4],by simp only[go_sem,seval,f5],by simp only[go_sem,seval,f9],by simp only[go_sem,seval,f6],by simp only[go_sem,seval],_,_,rfl⟩
   ·have t1:=zai (a 3) (b 0)
    have t2:=zai (a 4) (b 3)
    have t3:=zai (a 5) (b 6)
    have s1:=zaz wi0 (tW (a 3) (b 0))
    have s2:=zaz (aW wi0 (tW (a 3) (b 0))) (tW (a 4) (b 3))
    have s3:=zaz (aW (aW wi0 (tW (a 3) (b 0))) (tW (a 4) (b 3))) (tW (a 5) (b 6))
    simp(disch:=omega)only[go_sem,seval,wqq,f2,f3,f4,f5,f9,f6,f12]
    refine zaa zuv.eq_1 ?_
    simp(disch:=omega)only[go_sem,seval,wqq,f2,f3,f4,f5,f9,f6,f12]
    refine zah [26] rfl ?_ ?_
    ·simp(disch:=omega)only[go_sem,seval,wqq,f2,f3,f4,f5,f9,f6,f12,zad,zap,sB,t1,s1]
     exact⟨_,rfl,rfl⟩
    simp(disch:=omega)only[go_sem,seval,wqq,f2,f3,f4,f5,f9,f6,f12,zad,zap,sB,t1,s1]
    refine zaa zuv.eq_1 ?_
    simp(disch:=omega)only[go_sem,seval,wqq,f2,f3,f4,f5,f9,f6,f12]
    refine zah [26] rfl ?_ ?_
    ·simp(disch:=omega)only[go_sem,seval,wqq,f2,f3,f4,f5,f9,f6,f12,zad,zap,sB,t2,s2]
     exact⟨_,rfl,rfl⟩
    simp(disch:=omega)only[go_sem,seval,wqq,f2,f3,f4,f5,f9,f6,f12,zad,zap,sB,t2,s2]
    refine zaa zuv.eq_1 ?_
    simp(disch:=omega)only[go_sem,seval,wqq,f2,f3,f4,f5,f9,f6,f12]
    refine zah [26] rfl ?_ ?_
    ·simp(disch:=omega)only[go_sem,seval,wqq,f2,f3,f4,f5,f9,f6,f12,zad,zap,sB,t3,s3]
     exact⟨_,rfl,rfl⟩
    simp(disch:=omega)only[go_sem,seval,wqq,f2,f3,f4,f5,f9,f6,f12,zad,zap,sB,t3,s3]
    refine zaa zuv.eq_1 ?_
    simp(disch:=omega)only[go_sem,seval,wqq,f2,f3,f4,f5,f9,f6,f12]
    exact ih2 1 _ _ (by omega) ⟨by omega,by simp only[go_sem,seval,f2],by simp only[go_sem,seval,f3],by simp only[go_sem,seval,f4],by simp only[go_sem,seval,f5],by simp only[go_sem,seval,f9],by simp only[go_sem,seval,f6],by simp only[go_sem,seval],_,_,rfl⟩
   ·have t1:=zai (a 3) (b 1)
    have t2:=zai (a 4) (b 4)
    have t3:=zai (a 5) (b 7)
    have s1:=zaz wi0 (tW (a 3) (b 1))
    have s2:=zaz (aW wi0 (tW (a 3) (b 1))) (tW (a 4) (b 4))
    have s3:=zaz (aW (aW wi0 (tW (a 3) (b 1))) (tW (a 4) (b 4))) (tW (a 5) (b 7))
    simp(disch:=omega)only[go_sem,seval,wqq,f2,f3,f4,f5,f9,f6,f12]
    refine zaa zuv.eq_1 ?_
    simp(disch:=omega)only[go_sem,seval,wqq,f2,f3,f4,f5,f9,f6,f12]
    refine zah [26] rfl ?_ ?_
    ·simp(disch:=omega)only[go_sem,seval,wqq,f2,f3,f4,f5,f9,f6,f12,zad,zap,sB,t1,s1]
     exact⟨_,rfl,rfl⟩
    simp(disch:=omega)only[go_sem,seval,wqq,f2,f3,f4,f5,f9,f6,f12,zad,zap,sB,t1,s1]
    refine zaa zuv.eq_1 ?_
    simp(disch:=omega)only[go_sem,seval,wqq,f2,f3,f4,f5,f9,f6,f12]
    refine zah [26] rfl ?_ ?_
    ·simp(disch:=omega)only[go_sem,seval,wqq,f2,f3,f4,f5,f9,f6,f12,zad,zap,sB,t2,s2]
     exact⟨_,rfl,rfl⟩
    simp(disch:=omega)only[go_sem,seval,wqq,f2,f3,f4,f5,f9,f6,f12,zad,zap,sB,t2,s2]
    refine zaa zuv.eq_1 ?_
    simp(disch:=omega)only[go_sem,seval,wqq,f2,f3,f4,f5,f9,f6,f12]
    refine zah [26] rfl ?_ ?_
    ·simp(disch:=omega)only[go_sem,seval,wqq,f2,f3,f4,f5,f9,f6,f12,zad,zap,sB,t3,s3]
     exact⟨_,rfl,rfl⟩
    simp(disch:=omega)only[go_sem,seval,wqq,f2,f3,f4,f5,f9,f6,f12,zad,zap,sB,t3,s3]
    refine zaa zuv.eq_1 ?_
    simp(disch:=omega)only[go_sem,seval,wqq,f2,f3,f4,f5,f9,f6,f12]
    exact ih2 2 _ _ (by omega) ⟨by omega,by simp only[go_sem,seval,f2],by simp only[go_sem,seval,f3],by simp only[go_sem,seval,f4],by simp only[go_sem,seval,f5],by simp only[go_sem,seval,f9],by simp only[go_sem,seval,f6],by simp only[go_sem,seval],_,_,rfl⟩
   ·have t1:=zai (a 3) (b 2)
    have t2:=zai (a 4) (b 5)
    have t3:=zai (a 5) (b 8)
    have s1:=zaz wi0 (tW (a 3) (b 2))
    have s2:=zaz (aW wi0 (tW (a 3) (b 2))) (tW (a 4) (b 5))
    have s3:=zaz (aW (aW wi0 (tW (a 3) (b 2))) (tW (a 4) (b 5))) (tW (a 5) (b 8))
    simp(disch:=omega)only[go_sem,seval,wqq,f2,f3,f4,f5,f9,f6,f12]
    refine zaa zuv.eq_1 ?_
    simp(disch:=omega)only[go_sem,seval,wqq,f2,f3,f4,f5,f9,f6,f12]
    refine zah [26] rfl ?_ ?_
    ·simp(disch:=omega)only[go_sem,seval,wqq,f2,f3,f4,f5,f9,f6,f12,zad,zap,sB,t1,s1]
     exact⟨_,rfl,rfl⟩
    simp(disch:=omega)only[go_sem,seval,wqq,f2,f3,f4,f5,f9,f6,f12,zad,zap,sB,t1,s1]
    refine zaa zuv.eq_1 ?_
    simp(disch:=omega)only[go_sem,seval,wqq,f2,f3,f4,f5,f9,f6,f12]
    refine zah [26] rfl ?_ ?_
    ·simp(disch:=omega)only[go_sem,seval,wqq,f2,f3,f4,f5,f9,f6,f12,zad,zap,sB,t2,s2]
     exact⟨_,rfl,rfl⟩
    simp(disch:=omega)only[go_sem,seval,wqq,f2,f3,f4,f5,f9,f6,f12,zad,zap,sB,t2,s2]
    refine zaa zuv.eq_1 ?_
    simp(disch:=omega)only[go_sem,seval,wqq,f2,f3,f4,f5,f9,f6,f12]
    refine zah [26] rfl ?_ ?_
    ·simp(disch:=omega)only[go_sem,seval,wqq,f2,f3,f4,f5,f9,f6,f12,zad,zap,sB,t3,s3]
     exact⟨_,rfl,rfl⟩
    simp(disch:=omega)only[go_sem,seval,wqq,f2,f3,f4,f5,f9,f6,f12,zad,zap,sB,t3,s3]
    refine zaa zuv.eq_1 ?_
    simp(disch:=omega)only[go_sem,seval,wqq,f2,f3,f4,f5,f9,f6,f12]
    exact ih2 3 _ _ (by omega) ⟨by omega,by simp only[go_sem,seval,f2],by simp only[go_sem,seval,f3],by simp only[go_sem,seval,f4],by simp only[go_sem,seval,f5],by simp only[go_sem,seval,f9],by simp only[go_sem,seval,f6],by simp only[go_sem,seval],_,_,rfl⟩
   ·have t1:=zai (a 6) (b 0)
    have t2:=zai (a 7) (b 3)
    have t3:=zai (a 8) (b 6)
    have s1:=zaz wi0 (tW (a 6) (b 0))
    have s2:=zaz (aW wi0 (tW (a 6) (b 0))) (tW (a 7) (b 3))
    have s3:=zaz (aW (aW wi0 (tW (a 6) (b 0))) (tW (a 7) (b 3))) (tW (a 8) (b 6))
    simp(disch:=omega)only[go_sem,seval,wqq,f2,f3,f4,f5,f9,f6,f12]
    refine zaa zuv.eq_1 ?_
    simp(disch:=omega)only[go_sem,seval,wqq,f2,f3,f4,f5,f9,f6,f12]
    refine zah [26] rfl ?_ ?_
    ·simp(disch:=omega)only[go_sem,seval,wqq,f2,f3,f4,f5,f9,f6,f12,zad,zap,sB,t1,s1]
     exact⟨_,rfl,rfl⟩
    simp(disch:=omega)only[go_sem,seval,wqq,f2,f3,f4,f5,f9,f6,f12,zad,zap,sB,t1,s1]
    refine zaa zuv.eq_1 ?_
    simp(disch:=omega)only[go_sem,seval,wqq,f2,f3,f4,f5,f9,f6,f12]
    refine zah [26] rfl ?_ ?_
    ·simp(disch:=omega)only[go_sem,seval,wqq,f2,f3,f4,f5,f9,f6,f12,zad,zap,sB,t2,s2]
     exact⟨_,rfl,rfl⟩
    simp(disch:=omega)only[go_sem,seval,wqq,f2,f3,f4,f5,f9,f6,f12,zad,zap,sB,t2,s2]
    refine zaa zuv.eq_1 ?_
    simp(disch:=omega)only[go_sem,seval,wqq,f2,f3,f4,f5,f9,f6,f12]
    refine zah [26] rfl ?_ ?_
    ·simp(disch:=omega)only[go_sem,seval,wqq,f2,f3,f4,f5,f9,f6,f12,zad,zap,sB,t3,s3]
     exact⟨_,rfl,rfl⟩
    simp(disch:=omega)only[go_sem,seval,wqq,f2,f3,f4,f5,f9,f6,f12,zad,zap,sB,t3,s3]
    refine zaa zuv.eq_1 ?_
    simp(disch:=omega)only[go_sem,seval,wqq,f2,f3,f4,f5,f9,f6,f12]
    exact ih2 1 _ _ (by omega) ⟨by omega,by simp only[go_sem,seval,f2],by simp only[go_sem,seval,f3],by simp only[go_sem,seval,f4],by simp only[go_sem,seval,f5],by simp only[go_sem,seval,f9],by simp only[go_sem,seval,f6],by simp only[go_sem,seval],_,_,rfl⟩
   ·have t1:=zai (a 6) (b 1)
    have t2:=zai (a 7) (b 4)
    have t3:=zai (a 8) (b 7)
    have s1:=zaz wi0 (tW (a 6) (b 1))
    have s2:=zaz (aW wi0 (tW (a 6) (b 1))) (tW (a 7) (b 4))
    have s3:=zaz (aW (aW wi0 (tW (a 6) (b 1))) (tW (a 7) (b 4))) (tW (a 8) (b 7))
    simp(disch:=omega)only[go_sem,seval,wqq,f2,f3,f4,f5,f9,f6,f12]
    refine zaa zuv.eq_1 ?_
    simp(disch:=omega)only[go_sem,seval,wqq,f2,f3,f4,f5,f9,f6,f12]
    refine zah [26] rfl ?_ ?_
    ·simp(disch:=omega)only[go_sem,seval,wqq,f2,f3,f4,f5,f9,f6,f12,zad,zap,sB,t1,s1]
     exact⟨_,rfl,rfl⟩
    simp(disch:=omega)only[go_sem,seval,wqq,f2,f3,f4,f5,f9,f6,f12,zad,zap,sB,t1,s1]
    refine zaa zuv.eq_1 ?_
    simp(disch:=omega)only[go_sem,seval,wqq,f2,f3,f4,f5,f9,f6,f12]
    refine zah [26] rfl ?_ ?_
    ·simp(disch:=omega)only[go_sem,seval,wqq,f2,f3,f4,f5,f9,f6,f12,zad,zap,sB,t2,s2]
     exact⟨_,rfl,rfl⟩
    simp(disch:=omega)only[go_sem,seval,wqq,f2,f3,f4,f5,f9,f6,f12,zad,zap,sB,t2,s2]
    refine zaa zuv.eq_1 ?_
    simp(disch:=omega)only[go_sem,seval,wqq,f2,f3,f4,f5,f9,f6,f12]
    refine zah [26] rfl ?_ ?_
    ·simp(disch:=omega)only[go_sem,seval,wqq,f2,f3,f4,f5,f9,f6,f12,zad,zap,sB,t3,s3]
     exact⟨_,rfl,rfl⟩
    simp(disch:=omega)only[go_sem,seval,wqq,f2,f3,f4,f5,f9,f6,f12,zad,zap,sB,t3,s3]
    refine zaa zuv.eq_1 ?_
    simp(disch:=omega)only[go_sem,seval,wqq,f2,f3,f4,f5,f9,f6,f12]
    exact ih2 2 _ _ (by omega) ⟨by omega,by simp only[go_sem,seval,f2],by simp only[go_sem,seval,f3],by simp only[go_sem,seval,f4],by simp only[go_sem,seval,f5],by simp only[go_sem,seval,f9],by simp only[go_sem,seval,f6],by simp only[go_sem,seval],_,_,rfl⟩
   ·have t1:=zai (a 6) (b 2)
    have t2:=zai (a 7) (b 5)
    have t3:=zai (a 8) (b 8)
    have s1:=zaz wi0 (tW (a 6) (b 2))
    have s2:=zaz (aW wi0 (tW (a 6) (b 2))) (tW (a 7) (b 5))
    have s3:=zaz (aW (aW wi0 (tW (a 6) (b 2))) (tW (a 7) (b 5))) (tW (a 8) (b 8))
    simp(disch:=omega)only[go_sem,seval,wqq,f2,f3,f4,f5,f9,f6,f12]
    refine zaa zuv.eq_1 ?_
    simp(disch:=omega)only[go_sem,seval,wqq,f2,f3,f4,f5,f9,f6,f12]
    refine zah [26] rfl ?_ ?_
    ·simp(disch:=omega)only[go_sem,seval,wqq,f2,f3,f4,f5,f9,f6,f12,zad,zap,sB,t1,s1]
     exact⟨_,rfl,rfl⟩
    simp(disch:=omega)only[go_sem,seval,wqq,f2,f3,f4,f5,f9,f6,f12,zad,zap,sB,t1,s1]
    refine zaa zuv.eq_1 ?_
    simp(disch:=omega)only[go_sem,seval,wqq,f2,f3,f4,f5,f9,f6,f12]
    refine zah [26] rfl ?_ ?_
    ·simp(disch:=omega)only[go_sem,seval,wqq,f2,f3,f4,f5,f9,f6,f12,zad,zap,sB,t2,s2]
     exact⟨_,rfl,rfl⟩
    simp(disch:=omega)only[go_sem,seval,wqq,f2,f3,f4,f5,f9,f6,f12,zad,zap,sB,t2,s2]
    refine zaa zuv.eq_1 ?_
    simp(disch:=omega)only[go_sem,seval,wqq,f2,f3,f4,f5,f9,f6,f12]
    refine zah [26] rfl ?_ ?_
    ·simp(disch:=omega)only[go_sem,seval,wqq,f2,f3,f4,f5,f9,f6,f12,zad,zap,sB,t3,s3]
     exact⟨_,rfl,rfl⟩
    simp(disch:=omega)only[go_sem,seval,wqq,f2,f3,f4,f5,f9,f6,f12,zad,zap,sB,t3,s3]
    refine zaa zuv.eq_1 ?_
    simp(disch:=omega)only[go_sem,seval,wqq,f2,f3,f4,f5,f9,f6,f12]
    exact ih2 3 _ _ (by omega) ⟨by omega,by simp only[go_sem,seval,f2],by simp only[go_sem,seval,f3],by simp only[go_sem,seval,f4],by simp only[go_sem,seval,f5],by simp only[go_sem,seval,f9],by simp only[go_sem,seval,f6],by simp only[go_sem,seval],_,_,rfl⟩
  ·obtain rfl:k=3:=by omega
   simp(disch:=omega)only[go_sem,seval,wqq,f2,f3,f4,f5,f9,f6,f12]
   exact ih (i+1) _ _ (by omega) ⟨by omega,by simp only[go_sem,seval,f2],by simp only[go_sem,seval,f3],by simp only[go_sem,seval,f4],by simp only[go_sem,seval,f5],by simp only[go_sem,seval];rw[Int.natCast_succ],c,v,rfl⟩
 ·obtain rfl:i=3:=by omega
  have c9:cS (sB (3*3)) (prW a b)=cW (prW a b):=rfl
  simp(disch:=omega)only[go_sem,seval,wqq,f2,f3,f4,f5,f9,c9]
end Go.Eng
namespace Go.Eng
def rpK (a b c d e f:Int):Int:=0+a*b+c*d+e*f
def rprV (z u:Nat→Int):Nat→Int:=fun e=>rpK (z (3*(e/3))) (u (e%3)) (z (3*(e/3)+1)) (u (3+e%3)) (z (3*(e/3)+2)) (u (6+e%3))
theorem zc4 (a b c d e f:Int) (la:tlen a.natAbs≤9000) (lb:tlen b.natAbs≤9000) (lc:tlen c.natAbs≤9000) (ld:tlen d.natAbs≤9000) (le:tlen e.natAbs≤9000) (lf:tlen f.natAbs≤9000) :
  pf E0 118 [nP a,nP b]=some (nP (a*b))∧pf E0 119 [nP 0,nP (a*b)]=some (nP (0+a*b))∧pf E0 118 [nP c,nP d]=some (nP (c*d))∧pf E0 119 [nP (0+a*b),nP (c*d)]=some (nP (0+a*b+c*d)) ∧
  pf E0 118 [nP e,nP f]=some (nP (e*f))∧pf E0 119 [nP (0+a*b+c*d),nP (e*f)]=some (nP (rpK a b c d e f)):=by
 have h1:=zaw a b
 have h2:=zaV 0 (a*b)
 have h3:=zaw c d
 have h4:=zaV (0+a*b) (c*d)
 have h5:=zaw e f
 rw[Int.natAbs_zero,zaE] at h2
 exact⟨zbP _ _ (by omega) (by omega),zei _ _ (by rw[Int.natAbs_zero,zaE];omega) (by omega),zbP _ _ (by omega) (by omega),zei _ _ (by omega) (by omega),zbP _ _ (by omega) (by omega),zei _ _ (by omega) (by omega)⟩
set_option maxHeartbeats 4000000 in
theorem zmn {z u:Nat→Int} (hz:∀e,tlen (z e).natAbs≤9000) (hu:∀e,tlen (u e).natAbs≤9000):pf E0 354 [nM z,nM u]=some (nM (rprV z u)):=by
 have o0:=zck 0 (by decide)
 have n0:PV.ag [.b false,Tw (tlen 0) 0]=nP 0:=rfl
 refine zaf (xf:=zvw) rfl (by simp[zvw]) ?_
 simp only[zvw]
 simp(disch:=omega)only[go_sem,seval,wqq]
 refine zas zwE.eq_1 (fun(i:Nat) fr M=>i≤3∧fr 2=.p 0 0∧fr 3=.p 1 0∧fr 4=.p 2 0∧fr 5=.p 3 0∧fr 6=(PV.i .i64 ((i:Nat):Int))∧∃c v G,M=some ⟨cN z,true,0⟩::some ⟨cN u,true,0⟩::some ⟨cT (sB 0) z,true,c⟩::some ⟨cT (sB (3*i)) (rprV z u),true,v⟩::G) (fun i=>3-i) ?_ 0 ⟨by omega,by simp only[go_sem,seval],by simp only[go_sem,seval],by simp only[go_sem,seval],by simp only[go_sem,seval],by simp only[go_sem,seval],_,_,[],rfl⟩
 rintro i fr M ⟨hi,f2,f3,f4,f5,f6,c,v,G,rfl⟩ ih
 rcases Nat.lt_or_ge i 3 with h3|h3
 ·have q1:((i:Int)<3)=True:=eq_true (by omega)
  simp(disch:=omega)only[go_sem,seval,wqq,f2,f3,f4,f5,f6,q1]
  refine zas zwN.eq_1 (fun(k:Nat) fr M=>k≤3∧fr 2=.p 0 0∧fr 3=.p 1 0∧fr 4=.p 2 0∧fr 5=.p 3 0∧fr 6=(PV.i .i64 ((i:Nat):Int))∧fr 7=(PV.i .i64 ((k:Nat):Int))∧∃c v G,M=some ⟨cN z,true,0⟩::some ⟨cN u,true,0⟩::some ⟨cT (sB 0) z,true,c⟩::some ⟨cT (sB (3*i+k)) (rprV z u),true,v⟩::G) (fun k=>3-k) ?_ 0 ⟨by omega,by simp only[go_sem,seval,f2],by simp only[go_sem,seval,f3],by simp only[go_sem,seval,f4],by simp only[go_sem,seval,f5],by simp only[go_sem,seval,f6],by simp only[go_sem,seval],c,v,G,rfl⟩
  rintro k fr M ⟨hk,f2,f3,f4,f5,f6,f7,c,v,G,rfl⟩ ih2
  rcases Nat.lt_or_ge k 3 with h4|h4
  ·have q2:((k:Int)<3)=True:=eq_true (by omega)
   obtain rfl|rfl|rfl:=zdi h3<;>obtain rfl|rfl|rfl:=zdi h4
   ·obtain⟨t1,s1,t2,s2,t3,s3⟩:=zc4 (z 0) (u 0) (z 1) (u 3) (z 2) (u 6) (hz _) (hu _) (hz _) (hu _) (hz _) (hu _)
    simp(disch:=omega)only[go_sem,seval,wqq,f2,f3,f4,f5,f6,f7,o0,mG,mG0,sG,sG0,lG,lqq]
    refine zaa zuw.eq_1 ?_
    simp(disch:=omega)only[go_sem,seval,wqq,f2,f3,f4,f5,f6,f7,mG,mG0,sG,sG0,lG,lqq]
    refine zak [8] rfl (by simp only[go_sem,seval]) ?_
    simp(disch:=omega)only[go_sem,seval,wqq,f2,f3,f4,f5,f6,f7,zag,t1,s1,n0,mG,mG0,sG,sG0,lG,lqq]
    refine zaa zuw.eq_1 ?_
    simp(disch:=omega)only[go_sem,seval,wqq,f2,f3,f4,f5,f6,f7,mG,mG0,sG,sG0,lG,lqq]
    refine zak [8] rfl (by simp only[go_sem,seval]) ?_
    simp(disch:=omega)only[go_sem,seval,wqq,f2,f3,f4,f5,f6,f7,zag,t2,s2,n0,mG,mG0,sG,sG0,lG,lqq]
    refine zaa zuw.eq_1 ?_
    simp(disch:=omega)only[go_sem,seval,wqq,f2,f3,f4,f5,f6,f7,mG,mG0,sG,sG0,lG,lqq]
    refine zak [8] rfl (by simp only[go_sem,seval]) ?_
    simp(disch:=omega)only[go_sem,seval,wqq,f2,f3,f4,f5,f6,f7,zag,t3,s3,n0,mG,mG0,sG,sG0,lG,lqq]
    refine zaa zuw.eq_1 ?_
    simp(disch:=omega)only[go_sem,seval,wqq,f2,f3,f4,f5,f6,f7,mG,mG0,sG,sG0,lG,lqq]
    exact ih2 1 _ _ (by omega) ⟨by omega,by simp only[go_sem,seval,f2],by simp only[go_sem,seval,f3],by simp only[go_sem,seval,f4],by simp only[go_sem,seval,f5],by simp only[go_sem,seval,f6],by simp only[go_sem,seval],_,_,_,rfl⟩
   ·obtain⟨t1,s1,t2,s2,t3,s3⟩:=zc4 (z 0) (u 1) (z 1) (u 4) (z 2) (u 7) (hz _) (hu _) (hz _) (hu _) (hz _) (hu _)
    simp(disch:=omega)only[go_sem,seval,wqq,f2,f3,f4,f5,f6,f7,o0,mG,mG0,sG,sG0,lG,lqq]
    refine zaa zuw.eq_1 ?_
    simp(disch:=omega)only[go_sem,seval,wqq,f2,f3,f4,f5,f6,f7,mG,mG0,sG,sG0,lG,lqq]
    refine zak [8] rfl (by simp only[go_sem,seval]) ?_
    simp(disch:=omega)only[go_sem,seval,wqq,f2,f3,f4,f5,f6,f7,zag,t1,s1,n0,mG,mG0,sG,sG0,lG,lqq]
    refine zaa zuw.eq_1 ?_
    simp(disch:=omega)only[go_sem,seval,wqq,f2,f3,f4,f5,f6,f7,mG,mG0,sG,sG0,lG,lqq]
    refine zak [8] rfl (by simp only[go_sem,seval]) ?_
    simp(disch:=omega)only[go_sem,seval,wqq,f2,f3,f4,f5,f6,f7,zag,t2,s2,n0,mG,mG0,sG,sG0,lG,lqq]
    refine zaa zuw.eq_1 ?_
    simp(disch:=omega)only[go_sem,seval,wqq,f2,f3,f4,f5,f6,f7,mG,mG0,sG,sG0,lG,lqq]
    refine zak [8] rfl (by simp only[go_sem,seval]) ?_
    simp(disch:=omega)only[go_sem,seval,wqq,f2,f3,f4,f5,f6,f7,zag,t3,s3,n0,mG,mG0,sG,sG0,lG,lqq]
    refine zaa zuw.eq_1 ?_
    simp(disch:=omega)only[go_sem,seval,wqq,f2,f3,f4,f5,f6,f7,mG,mG0,sG,sG0,lG,lqq]
    exact ih2 2 _ _ (by omega) ⟨by omega,by simp only[go_sem,seval,f2],by simp only[go_sem,seval,f3],by simp only[go_sem,seval,f4],by simp only[go_sem,seval,f5],by simp only[go_sem,seval,f6],by simp only[go_sem,seval],_,_,_,rfl⟩
   ·obtain⟨t1,s1,t2,s2,t3,s3⟩:=zc4 (z 0) (u 2) (z 1) (u 5) (z 2) (u 8) (hz _) (hu _) (hz _) (hu _) (hz _) (hu _)
    simp(disch:=omega)only[go_sem,seval,wqq,f2,f3,f4,f5,f6,f7,o0,mG,mG0,sG,sG0,lG,lqq]
    refine zaa zuw.eq_1 ?_
    simp(disch:=omega)only[go_sem,seval,wqq,f2,f3,f4,f5,f6,f7,mG,mG0,sG,sG0,lG,lqq]
    refine zak [8] rfl (by simp only[go_sem,seval]) ?_
    simp(disch:=omega)only[go_sem,seval,wqq,f2,f3,f4,f5,f6,f7,zag,t1,s1,n0,mG,mG0,sG,sG0,lG,lqq]
    refine zaa zuw.eq_1 ?_
    simp(disch:=omega)only[go_sem,seval,wqq,f2,f3,f4,f5,f6,f7,mG,mG0,sG,sG0,lG,lqq]
    refine zak [8] rfl (by simp only[go_sem,seval]) ?_
    simp(disch:=omega)only[go_sem,seval,wqq,f2,f3,f4,f5,f6,f7,zag,t2,s2,n0,mG,mG0,sG,sG0,lG,lqq]
    refine zaa zuw.eq_1 ?_
    simp(disch:=omega)only[go_sem,seval,wqq,f2,f3,f4,f5,f6,f7,mG,mG0,sG,sG0,lG,lqq]
    refine zak [8] rfl (by simp only[go_sem,seval]) ?_
    simp(disch:=omega)only[go_sem,seval,wqq,f2,f3,f4,f5,f6,f7,zag,t3,s3,n0,mG,mG0,sG,sG0,lG,lqq]
    refine zaa zuw.eq_1 ?_
    simp(disch:=omega)only[go_sem,seval,wqq,f2,f3,f4,f5,f6,f7,mG,mG0,sG,sG0,lG,lqq]
    exact ih2 3 _ _ (by omega) ⟨by omega,by simp only[go_sem,seval,f2],by simp only[go_sem,seval,f3],by simp only[go_sem,seval,f4],by simp only[go_sem,seval,f5],by simp only[go_sem,seval,f6],by simp only[go_sem,seval],_,_,_,rfl⟩
   ·obtain⟨t1,s1,t2,s2,t3,s3⟩:=zc4 (z 3) (u 0) (z 4) (u 3) (z 5) (u 6) (hz _) (hu _) (hz _) (hu _) (hz _) (hu _)
    simp(disch:=omega)only[go_sem,seval,wqq,f2,f3,f4,f5,f6,f7,o0,mG,mG0,sG,sG0,lG,lqq]
    refine zaa zuw.eq_1 ?_
    simp(disch:=omega)only[go_sem,seval,wqq,f2,f3,f4,f5,f6,f7,mG,mG0,sG,sG0,lG,lqq]
    refine zak [8] rfl (by simp only[go_sem,seval]) ?_
    simp(disch:=omega)only[go_sem,seval,wqq,f2,f3,f4,f5,f6,f7,zag,t1,s1,n0,mG,mG0,sG,sG0,lG,lqq]
    refine zaa zuw.eq_1 ?_
    simp(disch:=omega)only[go_sem,seval,wqq,f2,f3,f4,f5,f6,f7,mG,mG0,sG,sG0,lG,lqq]
    refine zak [8] rfl (by simp only[go_sem,seval]) ?_
    simp(disch:=omega)only[go_sem,seval,wqq,f2,f3,f4,f5,f6,f7,zag,t2,s2,n0,mG,mG0,sG,sG0,lG,lqq]
    refine zaa zuw.eq_1 ?_
    simp(disch:=omega)only[go_sem,seval,wqq,f2,f3,f4,f5,f6,f7,mG,mG0,sG,sG0,lG,lqq]
    refine zak [8] rfl (by simp only[go_sem,seval]) ?_
    simp(disch:=omega)only[go_sem,seval,wqq,f2,f3,f4,f5,f6,f7,zag,t3,s3,n0,mG,mG0,sG,sG0,lG,lqq]
    refine zaa zuw.eq_1 ?_
    simp(disch:=omega)only[go_sem,seval,wqq,f2,f3,f4,f5,f6,f7,mG,mG0,sG,sG0,lG,lqq]
    exact ih2 1 _ _ (by omega) ⟨by omega,by simp only[go_sem,seval,f2],by simp only[go_sem,seval,f3],by simp only[go_sem,seval,f4],by simp only[go_sem,seval,f5],by simp only[go_sem,seval,f6],by simp only[go_sem,seval],_,_,_,rfl⟩
   ·obtain⟨t1,s1,t2,s2,t3,s3⟩:=zc4 (z 3) (u 1) (z 4) (u 4) (z 5) (u 7) (hz _) (hu _) (hz _) (hu _) (hz _) (hu _)
    simp(disch:=omega)only[go_sem,seval,wqq,f2,f3,f4,f5,f6,f7,o0,mG,mG0,sG,sG0,lG,lqq]
    refine zaa zuw.eq_1 ?_
    simp(disch:=omega)only[go_sem,seval,wqq,f2,f3,f4,f5,f6,f7,mG,mG0,sG,sG0,lG,lqq]
    refine zak [8] rfl (by simp only[go_sem,seval]) ?_
    simp(disch:=omega)only[go_sem,seval,wqq,f2,f3,f4,f5,f6,f7,zag,t1,s1,n0,mG,mG0,sG,sG0,lG,lqq]
    refine zaa zuw.eq_1 ?_
    simp(disch:=omega)only[go_sem,seval,wqq,f2,f3,f4,f5,f6,f7,mG,mG0,sG,sG0,lG,lqq]
    refine zak [8] rfl (by simp only[go_sem,seval]) ?_
    simp(disch:=omega)only[go_sem,seval,wqq,f2,f3,f4,f5,f6,f7,zag,t2,s2,n0,mG,mG0,sG,sG0,lG,lqq]
    refine zaa zuw.eq_1 ?_
    simp(disch:=omega)only[go_sem,seval,wqq,f2,f3,f4,f5,f6,f7,mG,mG0,sG,sG0,lG,lqq]
    refine zak [8] rfl (by simp only[go_sem,seval]) ?_
    simp(disch:=omega)only[go_sem,seval,wqq,f2,f3,f4,f5,f6,f7,zag,t3,s3,n0,mG,mG0,sG,sG0,lG,lqq]
    refine zaa zuw.eq_1 ?_
    simp(disch:=omega)only[go_sem,seval,wqq,f2,f3,f4,f5,f6,f7,mG,mG0,sG,sG0,lG,lqq]
    exact ih2 2 _ _ (by omega) ⟨by omega,by simp only[go_sem,seval,f2],by simp only[go_sem,seval,f3],by simp only[go_sem,seval,f4],by simp only[go_sem,seval,f5],by simp only[go_sem,seval,f6],by simp only[go_sem,seval],_,_,_,rfl⟩
   ·obtain⟨t1,s1,t2,s2,t3,s3⟩:=zc4 (z 3) (u 2) (z 4) (u 5) (z 5) (u 8) (hz _) (hu _) (hz _) (hu _) (hz _) (hu _)
    simp(disch:=omega)only[go_sem,seval,wqq,f2,f3,f4,f5,f6,f7,o0,mG,mG0,sG,sG0,lG,lqq]
    refine zaa zuw.eq_1 ?_
    simp(disch:=omega)only[go_sem,seval,wqq,f2,f3,f4,f5,f6,f7,mG,mG0,sG,sG0,lG,lqq]
    refine zak [8] rfl (by simp only[go_sem,seval]) ?_
    simp(disch:=omega)only[go_sem,seval,wqq,f2,f3,f4,f5,f6,f7,zag,t1,s1,n0,mG,mG0,sG,sG0,lG,lqq]
    refine zaa zuw.eq_1 ?_
    simp(disch:=omega)only[go_sem,seval,wqq,f2,f3,f4,f5,f6,f7,mG,mG0,sG,sG0,lG,lqq]
    refine zak [8] rfl (by simp only[go_sem,seval]) ?_
    simp(disch:=omega)only[go_sem,seval,wqq,f2,f3,f4,f5,f6,f7,zag,t2,s2,n0,mG,mG0,sG,sG0,lG,lqq]
    refine zaa zuw.eq_1 ?_
    simp(disch:=omega)only[go_sem,seval,wqq,f2,f3,f4,f5,f6,f7,mG,mG0,sG,sG0,lG,lqq]
    refine zak [8] rfl (by simp only[go_sem,seval]) ?_
    simp(disch:=omega)only[go_sem,seval,wqq,f2,f3,f4,f5,f6,f7,zag,t3,s3,n0,mG,mG0,sG,sG0,lG,lqq]
    refine zaa zuw.eq_1 ?_
    simp(disch:=omega)only[go_sem,seval,wqq,f2,f3,f4,f5,f6,f7,mG,mG0,sG,sG0,lG,lqq]
    exact ih2 3 _ _ (by omega) ⟨by omega,by simp only[go_sem,seval,f2],by simp only[go_sem,seval,f3],by simp only[go_sem,seval,f4],by simp only[go_sem,seval,f5],by simp only[go_sem,seval,f6],by simp only[go_sem,seval],_,_,_,rfl⟩
   ·obtain⟨t1,s1,t2,s2,t3,s3⟩:=zc4 (z 6) (u 0) (z 7) (u 3) (z 8) (u 6) (hz _) (hu _) (hz _) (hu _) (hz _) (hu _)
    simp(disch:=omega)only[go_sem,seval,wqq,f2,f3,f4,f5,f6,f7,o0,mG,mG0,sG,sG0,lG,lqq]
    refine zaa zuw.eq_1 ?_
    simp(disch:=omega)only[go_sem,seval,wqq,f2,f3,f4,f5,f6,f7,mG,mG0,sG,sG0,lG,lqq]
    refine zak [8] rfl (by simp only[go_sem,seval]) ?_
    simp(disch:=omega)only[go_sem,seval,wqq,f2,f3,f4,f5,f6,f7,zag,t1,s1,n0,mG,mG0,sG,sG0,lG,lqq]
    refine zaa zuw.eq_1 ?_
    simp(disch:=omega)only[go_sem,seval,wqq,f2,f3,f4,f5,f6,f7,mG,mG0,sG,sG0,lG,lqq]
    refine zak [8] rfl (by simp only[go_sem,seval]) ?_
    simp(disch:=omega)only[go_sem,seval,wqq,f2,f3,f4,f5,f6,f7,zag,t2,s2,n0,mG,mG0,sG,sG0,lG,lqq]
    refine zaa zuw.eq_1 ?_
    simp(disch:=omega)only[go_sem,seval,wqq,f2,f3,f4,f5,f6,f7,mG,mG0,sG,sG0,lG,lqq]
    refine zak [8] rfl (by simp only[go_sem,seval]) ?_
    simp(disch:=omega)only[go_sem,seval,wqq,f2,f3,f4,f5,f6,f7,zag,t3,s3,n0,mG,mG0,sG,sG0,lG,lqq]
    refine zaa zuw.eq_1 ?_
    simp(disch:=omega)only[go_sem,seval,wqq,f2,f3,f4,f5,f6,f7,mG,mG0,sG,sG0,lG,lqq]
    exact ih2 1 _ _ (by omega) ⟨by omega,by simp only[go_sem,seval,f2],by simp only[go_sem,seval,f3],by simp only[go_sem,seval,f4],by simp only[go_sem,seval,f5],by simp only[go_sem,seval,f6],by simp only[go_sem,seval],_,_,_,rfl⟩
   ·obtain⟨t1,s1,t2,s2,t3,s3⟩:=zc4 (z 6) (u 1) (z 7) (u 4) (z 8) (u 7) (hz _) (hu _) (hz _) (hu _) (hz _) (hu _)
    simp(disch:=omega)only[go_sem,seval,wqq,f2,f3,f4,f5,f6,f7,o0,mG,mG0,sG,sG0,lG,lqq]
    refine zaa zuw.eq_1 ?_
    simp(disch:=omega)only[go_sem,seval,wqq,f2,f3,f4,f5,f6,f7,mG,mG0,sG,sG0,lG,lqq]
    refine zak [8] rfl (by simp only[go_sem,seval]) ?_
    simp(disch:=omega)only[go_sem,seval,wqq,f2,f3,f4,f5,f6,f7,zag,t1,s1,n0,mG,mG0,sG,sG0,lG,lqq]
    refine zaa zuw.eq_1 ?_
    simp(disch:=omega)only[go_sem,seval,wqq,f2,f3,f4,f5,f6,f7,mG,mG0,sG,sG0,lG,lqq]
    refine zak [8] rfl (by simp only[go_sem,seval]) ?_
    simp(disch:=omega)only[go_sem,seval,wqq,f2,f3,f4,f5,f6,f7,zag,t2,s2,n0,mG,mG0,sG,sG0,lG,lqq]
    refine zaa zuw.eq_1 ?_
    simp(disch:=omega)only[go_sem,seval,wqq,f2,f3,f4,f5,f6,f7,mG,mG0,sG,sG0,lG,lqq]
    refine zak [8] rfl (by simp only[go_sem,seval]) ?_
    simp(disch:=omega)only[go_sem,seval,wqq,f2,f3,f4,f5,f6,f7,zag,t3,s3,n0,mG,mG0,sG,sG0,lG,lqq]
    refine zaa zuw.eq_1 ?_
    simp(disch:=omega)only[go_sem,seval,wqq,f2,f3,f4,f5,f6,f7,mG,mG0,sG,sG0,lG,lqq]
    exact ih2 2 _ _ (by omega) ⟨by omega,by simp only[go_sem,seval,f2],by simp only[go_sem,seval,f3],by simp only[go_sem,seval,f4],by simp only[go_sem,seval,f5],by simp only[go_sem,seval,f6],by simp only[go_sem,seval],_,_,_,rfl⟩
   ·obtain⟨t1,s1,t2,s2,t3,s3⟩:=zc4 (z 6) (u 2) (z 7) (u 5) (z 8) (u 8) (hz _) (hu _) (hz _) (hu _) (hz _) (hu _)
    simp(disch:=omega)only[go_sem,seval,wqq,f2,f3,f4,f5,f6,f7,o0,mG,mG0,sG,sG0,lG,lqq]
    refine zaa zuw.eq_1 ?_
    simp(disch:=omega)only[go_sem,seval,wqq,f2,f3,f4,f5,f6,f7,mG,mG0,sG,sG0,lG,lqq]
    refine zak [8] rfl (by simp only[go_sem,seval]) ?_
    simp(disch:=omega)only[go_sem,seval,wqq,f2,f3,f4,f5,f6,f7,zag,t1,s1,n0,mG,mG0,sG,sG0,lG,lqq]
    refine zaa zuw.eq_1 ?_
    simp(disch:=omega)only[go_sem,seval,wqq,f2,f3,f4,f5,f6,f7,mG,mG0,sG,sG0,lG,lqq]
    refine zak [8] rfl (by simp only[go_sem,seval]) ?_
    simp(disch:=omega)only[go_sem,seval,wqq,f2,f3,f4,f5,f6,f7,zag,t2,s2,n0,mG,mG0,sG,sG0,lG,lqq]
    refine zaa zuw.eq_1 ?_
    simp(disch:=omega)only[go_sem,seval,wqq,f2,f3,f4,f5,f6,f7,mG,mG0,sG,sG0,lG,lqq]
    refine zak [8] rfl (by simp only[go_sem,seval]) ?_
    simp(disch:=omega)only[go_sem,seval,wqq,f2,f3,f4,f5,f6,f7,zag,t3,s3,n0,mG,mG0,sG,sG0,lG,lqq]
    refine zaa zuw.eq_1 ?_
    simp(disch:=omega)only[go_sem,seval,wqq,f2,f3,f4,f5,f6,f7,mG,mG0,sG,sG0,lG,lqq]
    exact ih2 3 _ _ (by omega) ⟨by omega,by simp only[go_sem,seval,f2],by simp only[go_sem,seval,f3],by simp only[go_sem,seval,f4],by simp only[go_sem,seval,f5],by simp only[go_sem,seval,f6],by simp only[go_sem,seval],_,_,_,rfl⟩
  ·obtain rfl:k=3:=by omega
   simp(disch:=omega)only[go_sem,seval,wqq,f2,f3,f4,f5,f6,f7]
   exact ih (i+1) _ _ (by omega) ⟨by omega,by simp only[go_sem,seval,f2],by simp only[go_sem,seval,f3],by simp only[go_sem,seval,f4],by simp only[go_sem,seval,f5],by simp only[go_sem,seval];rw[Int.natCast_succ],c,v,G,rfl⟩
 ·obtain rfl:i=3:=by omega
  have c9:cT (sB (3*3)) (rprV z u)=cN (rprV z u):=rfl
  simp(disch:=omega)only[go_sem,seval,wqq,f2,f3,f4,f5,f6,c9]
def u0V (z:Nat→Int) (i:Nat):Nat→Int:=fun e=>if e%3=i then 0 else z e
def uV (z:Nat→Int) (i k:Nat):Nat→Int:=fun e=>if e=3*k+i then 1 else u0V z i e
def rinV (z:Nat→Int):Nat→Int:=fun e=>rdV (uV z (e/3) (e%3))
theorem zoK {z:Nat→Int} (hz:∀e,tlen (z e).natAbs≤9000) (i k e:Nat):tlen (uV z i k e).natAbs≤9000:=by
 unfold uV u0V
 split
 ·exact Nat.le_trans (zk7 (by decide)) (by decide)
 ·split
  ·rw[Int.natAbs_zero,zaE];decide
  ·exact hz e
end Go.Eng
namespace Go.Eng
set_option maxHeartbeats 4000000 in
theorem zmR {F:PFin} {ks:List KI} {z:Nat→Int} {i k:Nat} (hi:i<3) {R O:Option PB} {G:PM} {fr:PFr} {v:Nat} (f1:fr 1=.p 0 0) (f2:fr 2=.p 1 0) (f3:fr 3=.p 2 0) (f4:fr 4=(PV.i .i64 ((i:Nat):Int))) (f5:fr 5=(PV.i .i64 ((k:Nat):Int))) (f6:fr 6=.p (G.length+3) 0) (f7:fr 7=(PV.i .i64 ((0:Nat):Int)))
  (cont:∀fr' v',fr' 1=.p 0 0→fr' 2=.p 1 0→fr' 3=.p 2 0→fr' 4=(PV.i .i64 ((i:Nat):Int))→fr' 5=(PV.i .i64 ((k:Nat):Int))→fr' 6=.p (G.length+3) 0→UK E0 F (.exit 4) ks fr' (some ⟨cN z,true,0⟩::R::O::(G++[some ⟨cT (sB 9) (u0V z i),true,v'⟩]))) :
  WK E0 F (.loop zvY) ks fr (some ⟨cN z,true,0⟩::R::O::(G++[some ⟨cT (sB 0) (u0V z i),true,v⟩])):=by
 have o0:=zck 0 (by decide)
 refine zas zvY.eq_1 (fun(r:Nat) fr M=>r≤3∧fr 1=.p 0 0∧fr 2=.p 1 0∧fr 3=.p 2 0∧fr 4=(PV.i .i64 ((i:Nat):Int))∧fr 5=(PV.i .i64 ((k:Nat):Int))∧fr 6=.p (G.length+3) 0∧fr 7=(PV.i .i64 ((r:Nat):Int))∧∃v,M=some ⟨cN z,true,0⟩::R::O::(G++[some ⟨cT (sB (3*r)) (u0V z i),true,v⟩])) (fun r=>3-r) ?_ 0 ⟨by omega,f1,f2,f3,f4,f5,f6,f7,v,rfl⟩
 rintro r fr M ⟨hr,f1,f2,f3,f4,f5,f6,f7,v,rfl⟩ ih
 rcases Nat.lt_or_ge r 3 with h3|h3
 ·have q1:((r:Int)<3)=True:=eq_true (by omega)
  simp(disch:=omega)only[go_sem,seval,wqq,f1,f2,f3,f4,f5,f6,f7,q1]
  refine zas zwI.eq_1 (fun(c:Nat) fr M=>c≤3∧fr 1=.p 0 0∧fr 2=.p 1 0∧fr 3=.p 2 0∧fr 4=(PV.i .i64 ((i:Nat):Int))∧fr 5=(PV.i .i64 ((k:Nat):Int))∧fr 6=.p (G.length+3) 0∧fr 7=(PV.i .i64 ((r:Nat):Int))∧fr 8=(PV.i .i64 ((c:Nat):Int))∧∃v,M=some ⟨cN z,true,0⟩::R::O::(G++[some ⟨cT (sB (3*r+c)) (u0V z i),true,v⟩])) (fun c=>3-c) ?_ 0 ⟨by omega,by simp only[go_sem,seval,f1],by simp only[go_sem,seval,f2],by simp only[go_sem,seval,f3],by simp only[go_sem,seval,f4],by simp only[go_sem,seval,f5],by simp only[go_sem,seval,f6],by simp only[go_sem,seval,f7],by simp only[go_sem,seval],v,rfl⟩
  rintro c fr M ⟨hc,f1,f2,f3,f4,f5,f6,f7,f8,v,rfl⟩ ih2
  rcases Nat.lt_or_ge c 3 with h4|h4
  ·have q2:((c:Int)<3)=True:=eq_true (by omega)
   obtain rfl|rfl|rfl:=zdi hi<;>obtain rfl|rfl|rfl:=zdi h3<;>obtain rfl|rfl|rfl:=zdi h4
   ·simp(disch:=omega)only[go_sem,seval,wqq,f1,f2,f3,f4,f5,f6,f7,f8,zag,zaM,o0,mG,mG0,sG,sG0,lG,lqq]
    exact ih2 1 _ _ (by omega) ⟨by omega,by simp only[go_sem,seval,f1],by simp only[go_sem,seval,f2],by simp only[go_sem,seval,f3],by simp only[go_sem,seval,f4],by simp only[go_sem,seval,f5],by simp only[go_sem,seval,f6],by simp only[go_sem,seval,f7],by simp only[go_sem,seval],_,rfl⟩
   ·simp(disch:=omega)only[go_sem,seval,wqq,f1,f2,f3,f4,f5,f6,f7,f8,zag,zaM,o0,mG,mG0,sG,sG0,lG,lqq]
    exact ih2 2 _ _ (by omega) ⟨by omega,by simp only[go_sem,seval,f1],by simp only[go_sem,seval,f2],by simp only[go_sem,seval,f3],by simp only[go_sem,seval,f4],by simp only[go_sem,seval,f5],by simp only[go_sem,seval,f6],by simp only[go_sem,seval,f7],by simp only[go_sem,seval],_,rfl⟩
   ·simp(disch:=omega)only[go_sem,seval,wqq,f1,f2,f3,f4,f5,f6,f7,f8,zag,zaM,o0,mG,mG0,sG,sG0,lG,lqq]
    exact ih2 3 _ _ (by omega) ⟨by omega,by simp only[go_sem,seval,f1],by simp only[go_sem,seval,f2],by simp only[go_sem,seval,f3],by simp only[go_sem,seval,f4],by simp only[go_sem,seval,f5],by simp only[go_sem,seval,f6],by simp only[go_sem,seval,f7],by simp only[go_sem,seval],_,rfl⟩
   ·simp(disch:=omega)only[go_sem,seval,wqq,f1,f2,f3,f4,f5,f6,f7,f8,zag,zaM,o0,mG,mG0,sG,sG0,lG,lqq]
    exact ih2 1 _ _ (by omega) ⟨by omega,by simp only[go_sem,seval,f1],by simp only[go_sem,seval,f2],by simp only[go_sem,seval,f3],by simp only[go_sem,seval,f4],by simp only[go_sem,seval,f5],by simp only[go_sem,seval,f6],by simp only[go_sem,seval,f7],by simp only[go_sem,seval],_,rfl⟩
   ·simp(disch:=omega)only[go_sem,seval,wqq,f1,f2,f3,f4,f5,f6,f7,f8,zag,zaM,o0,mG,mG0,sG,sG0,lG,lqq]
    exact ih2 2 _ _ (by omega) ⟨by omega,by simp only[go_sem,seval,f1],by simp only[go_sem,seval,f2],by simp only[go_sem,seval,f3],by simp only[go_sem,seval,f4],by simp only[go_sem,seval,f5],by simp only[go_sem,seval,f6],by simp only[go_sem,seval,f7],by simp only[go_sem,seval],_,rfl⟩
   ·simp(disch:=omega)only[go_sem,seval,wqq,f1,f2,f3,f4,f5,f6,f7,f8,zag,zaM,o0,mG,mG0,sG,sG0,lG,lqq]
    exact ih2 3 _ _ (by omega) ⟨by omega,by simp only[go_sem,seval,f1],by simp only[go_sem,seval,f2],by simp only[go_sem,seval,f3],by simp only[go_sem,seval,f4],by simp only[go_sem,seval,f5],by simp only[go_sem,seval,f6],by simp only[go_sem,seval,f7],by simp only[go_sem,seval],_,rfl⟩
   ·simp(disch:=omega)only[go_sem,seval,wqq,f1,f2,f3,f4,f5,f6,f7,f8,zag,zaM,o0,mG,mG0,sG,sG0,lG,lqq]
    exact ih2 1 _ _ (by omega) ⟨by omega,by simp only[go_sem,seval,f1],by simp only[go_sem,seval,f2],by simp only[go_sem,seval,f3],by simp only[go_sem,seval,f4],by simp only[go_sem,seval,f5],by simp only[go_sem,seval,f6],by simp only[go_sem,seval,f7],by simp only[go_sem,seval],_,rfl⟩
   ·simp(disch:=omega)only[go_sem,seval,wqq,f1,f2,f3,f4,f5,f6,f7,f8,zag,zaM,o0,mG,mG0,sG,sG0,lG,lqq]
    exact ih2 2 _ _ (by omega) ⟨by omega,by simp only[go_sem,seval,f1],by simp only[go_sem,seval,f2],by simp only[go_sem,seval,f3],by simp only[go_sem,seval,f4],by simp only[go_sem,seval,f5],by simp only[go_sem,seval,f6],by simp only[go_sem,seval,f7],by simp only[go_sem,seval],_,rfl⟩
   ·simp(disch:=omega)only[go_sem,seval,wqq,f1,f2,f3,f4,f5,f6,f7,f8,zag,zaM,o0,mG,mG0,sG,sG0,lG,lqq]
    exact ih2 3 _ _ (by omega) ⟨by omega,by simp only[go_sem,seval,f1],by simp only[go_sem,seval,f2],by simp only[go_sem,seval,f3],by simp only[go_sem,seval,f4],by simp only[go_sem,seval,f5],by simp only[go_sem,seval,f6],by simp only[go_sem,seval,f7],by simp only[go_sem,seval],_,rfl⟩
   ·simp(disch:=omega)only[go_sem,seval,wqq,f1,f2,f3,f4,f5,f6,f7,f8,zag,zaM,o0,mG,mG0,sG,sG0,lG,lqq]
    exact ih2 1 _ _ (by omega) ⟨by omega,by simp only[go_sem,seval,f1],by simp only[go_sem,seval,f2],by simp only[go_sem,seval,f3],by simp only[go_sem,seval,f4],by simp only[go_sem,seval,f5],by simp only[go_sem,seval,f6],by simp only[go_sem,seval,f7],by simp only[go_sem,seval],_,rfl⟩
   ·simp(disch:=omega)only[go_sem,seval,wqq,f1,f2,f3,f4,f5,f6,f7,f8,zag,zaM,o0,mG,mG0,sG,sG0,lG,lqq]
    exact ih2 2 _ _ (by omega) ⟨by omega,by simp only[go_sem,seval,f1],by simp only[go_sem,seval,f2],by simp only[go_sem,seval,f3],by simp only[go_sem,seval,f4],by simp only[go_sem,seval,f5],by simp only[go_sem,seval,f6],by simp only[go_sem,seval,f7],by simp only[go_sem,seval],_,rfl⟩
   ·simp(disch:=omega)only[go_sem,seval,wqq,f1,f2,f3,f4,f5,f6,f7,f8,zag,zaM,o0,mG,mG0,sG,sG0,lG,lqq]
    exact ih2 3 _ _ (by omega) ⟨by omega,by simp only[go_sem,seval,f1],by simp only[go_sem,seval,f2],by simp only[go_sem,seval,f3],by simp only[go_sem,seval,f4],by simp only[go_sem,seval,f5],by simp only[go_sem,seval,f6],by simp only[go_sem,seval,f7],by simp only[go_sem,seval],_,rfl⟩
   ·simp(disch:=omega)only[go_sem,seval,wqq,f1,f2,f3,f4,f5,f6,f7,f8,zag,zaM,o0,mG,mG0,sG,sG0,lG,lqq]
    exact ih2 1 _ _ (by omega) ⟨by omega,by simp only[go_sem,seval,f1],by simp only[go_sem,seval,f2],by simp only[go_sem,seval,f3],by simp only[go_sem,seval,f4],by simp only[go_sem,seval,f5],by simp only[go_sem,seval,f6],by simp only[go_sem,seval,f7],by simp only[go_sem,seval],_,rfl⟩
   ·simp(disch:=omega)only[go_sem,seval,wqq,f1,f2,f3,f4,f5,f6,f7,f8,zag,zaM,o0,mG,mG0,sG,sG0,lG,lqq]
    exact ih2 2 _ _ (by omega) ⟨by omega,by simp only[go_sem,seval,f1],by simp only[go_sem,seval,f2],by simp only[go_sem,seval,f3],by simp only[go_sem,seval,f4],by simp only[go_sem,seval,f5],by simp only[go_sem,seval,f6],by simp only[go_sem,seval,f7],by simp only[go_sem,seval],_,rfl⟩
   ·simp(disch:=omega)only[go_sem,seval,wqq,f1,f2,f3,f4,f5,f6,f7,f8,zag,zaM,o0,mG,mG0,sG,sG0,lG,lqq]
    exact ih2 3 _ _ (by omega) ⟨by omega,by simp only[go_sem,seval,f1],by simp only[go_sem,seval,f2],by simp only[go_sem,seval,f3],by simp only[go_sem,seval,f4],by simp only[go_sem,seval,f5],by simp only[go_sem,seval,f6],by simp only[go_sem,seval,f7],by simp only[go_sem,seval],_,rfl⟩
   ·simp(disch:=omega)only[go_sem,seval,wqq,f1,f2,f3,f4,f5,f6,f7,f8,zag,zaM,o0,mG,mG0,sG,sG0,lG,lqq]
    exact ih2 1 _ _ (by omega) ⟨by omega,by simp only[go_sem,seval,f1],by simp only[go_sem,seval,f2],by simp only[go_sem,seval,f3],by simp only[go_sem,seval,f4],by simp only[go_sem,seval,f5],by simp only[go_sem,seval,f6],by simp only[go_sem,seval,f7],by simp only[go_sem,seval],_,rfl⟩
   ·simp(disch:=omega)only[go_sem,seval,wqq,f1,f2,f3,f4,f5,f6,f7,f8,zag,zaM,o0,mG,mG0,sG,sG0,lG,lqq]
    exact ih2 2 _ _ (by omega) ⟨by omega,by simp only[go_sem,seval,f1],by simp only[go_sem,seval,f2],by simp only[go_sem,seval,f3],by simp only[go_sem,seval,f4],by simp only[go_sem,seval,f5],by simp only[go_sem,seval,f6],by simp only[go_sem,seval,f7],by simp only[go_sem,seval],_,rfl⟩
   ·simp(disch:=omega)only[go_sem,seval,wqq,f1,f2,f3,f4,f5,f6,f7,f8,zag,zaM,o0,mG,mG0,sG,sG0,lG,lqq]
    exact ih2 3 _ _ (by omega) ⟨by omega,by simp only[go_sem,seval,f1],by simp only[go_sem,seval,f2],by simp only[go_sem,seval,f3],by simp only[go_sem,seval,f4],by simp only[go_sem,seval,f5],by simp only[go_sem,seval,f6],by simp only[go_sem,seval,f7],by simp only[go_sem,seval],_,rfl⟩
   ·simp(disch:=omega)only[go_sem,seval,wqq,f1,f2,f3,f4,f5,f6,f7,f8,zag,zaM,o0,mG,mG0,sG,sG0,lG,lqq]
    exact ih2 1 _ _ (by omega) ⟨by omega,by simp only[go_sem,seval,f1],by simp only[go_sem,seval,f2],by simp only[go_sem,seval,f3],by simp only[go_sem,seval,f4],by simp only[go_sem,seval,f5],by simp only[go_sem,seval,f6],by simp only[go_sem,seval,f7],by simp only[go_sem,seval],_,rfl⟩
   ·simp(disch:=omega)only[go_sem,seval,wqq,f1,f2,f3,f4,f5,f6,f7,f8,zag,zaM,o0,mG,mG0,sG,sG0,lG,lqq]
    exact ih2 2 _ _ (by omega) ⟨by omega,by simp only[go_sem,seval,f1],by simp only[go_sem,seval,f2],by simp only[go_sem,seval,f3],by simp only[go_sem,seval,f4],by simp only[go_sem,seval,f5],by simp only[go_sem,seval,f6],by simp only[go_sem,seval,f7],by simp only[go_sem,seval],_,rfl⟩
   ·simp(disch:=omega)only[go_sem,seval,wqq,f1,f2,f3,f4,f5,f6,f7,f8,zag,zaM,o0,mG,mG0,sG,sG0,lG,lqq]
    exact ih2 3 _ _ (by omega) ⟨by omega,by simp only[go_sem,seval,f1],by simp only[go_sem,seval,f2],by simp only[go_sem,seval,f3],by simp only[go_sem,seval,f4],by simp only[go_sem,seval,f5],by simp only[go_sem,seval,f6],by simp only[go_sem,seval,f7],by simp only[go_sem,seval],_,rfl⟩
   ·simp(disch:=omega)only[go_sem,seval,wqq,f1,f2,f3,f4,f5,f6,f7,f8,zag,zaM,o0,mG,mG0,sG,sG0,lG,lqq]
    exact ih2 1 _ _ (by omega) ⟨by omega,by simp only[go_sem,seval,f1],by simp only[go_sem,seval,f2],by simp only[go_sem,seval,f3],by simp only[go_sem,seval,f4],by simp only[go_sem,seval,f5],by simp only[go_sem,seval,f6],by simp only[go_sem,seval,f7],by simp only[go_sem,seval],_,rfl⟩
   ·simp(disch:=omega)only[go_sem,seval,wqq,f1,f2,f3,f4,f5,f6,f7,f8,zag,zaM,o0,mG,mG0,sG,sG0,lG,lqq]
    exact ih2 2 _ _ (by omega) ⟨by omega,by simp only[go_sem,seval,f1],by simp only[go_sem,seval,f2],by simp only[go_sem,seval,f3],by simp only[go_sem,seval,f4],by simp only[go_sem,seval,f5],by simp only[go_sem,seval,f6],by simp only[go_sem,seval,f7],by simp only[go_sem,seval],_,rfl⟩
   ·simp(disch:=omega)only[go_sem,seval,wqq,f1,f2,f3,f4,f5,f6,f7,f8,zag,zaM,o0,mG,mG0,sG,sG0,lG,lqq]
    exact ih2 3 _ _ (by omega) ⟨by omega,by simp only[go_sem,seval,f1],by simp only[go_sem,seval,f2],by simp only[go_sem,seval,f3],by simp only[go_sem,seval,f4],by simp only[go_sem,seval,f5],by simp only[go_sem,seval,f6],by simp only[go_sem,seval,f7],by simp only[go_sem,seval],_,rfl⟩
   ·simp(disch:=omega)only[go_sem,seval,wqq,f1,f2,f3,f4,f5,f6,f7,f8,zag,zaM,o0,mG,mG0,sG,sG0,lG,lqq]
    exact ih2 1 _ _ (by omega) ⟨by omega,by simp only[go_sem,seval,f1],by simp only[go_sem,seval,f2],by simp only[go_sem,seval,f3],by simp only[go_sem,seval,f4],by simp only[go_sem,seval,f5],by simp only[go_sem,seval,f6],by simp only[go_sem,seval,f7],by simp only[go_sem,seval],_,rfl⟩
   ·simp(disch:=omega)only[go_sem,seval,wqq,f1,f2,f3,f4,f5,f6,f7,f8,zag,zaM,o0,mG,mG0,sG,sG0,lG,lqq]
    exact ih2 2 _ _ (by omega) ⟨by omega,by simp only[go_sem,seval,f1],by simp only[go_sem,seval,f2],by simp only[go_sem,seval,f3],by simp only[go_sem,seval,f4],by simp only[go_sem,seval,f5],by simp only[go_sem,seval,f6],by simp only[go_sem,seval,f7],by simp only[go_sem,seval],_,rfl⟩
   ·simp(disch:=omega)only[go_sem,seval,wqq,f1,f2,f3,f4,f5,f6,f7,f8,zag,zaM,o0,mG,mG0,sG,sG0,lG,lqq]
    exact ih2 3 _ _ (by omega) ⟨by omega,by simp only[go_sem,seval,f1],by simp only[go_sem,seval,f2],by simp only[go_sem,seval,f3],by simp only[go_sem,seval,f4],by simp only[go_sem,seval,f5],by simp only[go_sem,seval,f6],by simp only[go_sem,seval,f7],by simp only[go_sem,seval],_,rfl⟩
  ·obtain rfl:c=3:=by omega
   simp(disch:=omega)only[go_sem,seval,wqq,f1,f2,f3,f4,f5,f6,f7,f8]
   exact ih (r+1) _ _ (by omega) ⟨by omega,by simp only[go_sem,seval,f1],by simp only[go_sem,seval,f2],by simp only[go_sem,seval,f3],by simp only[go_sem,seval,f4],by simp only[go_sem,seval,f5],by simp only[go_sem,seval,f6],by simp only[go_sem,seval];rw[Int.natCast_succ],v,rfl⟩
 ·obtain rfl:r=3:=by omega
  simp(disch:=omega)only[go_sem,seval,wqq,f1,f2,f3,f4,f5,f6,f7]
  exact cont _ v (by simp only[go_sem,seval,f1]) (by simp only[go_sem,seval,f2]) (by simp only[go_sem,seval,f3]) (by simp only[go_sem,seval,f4]) (by simp only[go_sem,seval,f5]) (by simp only[go_sem,seval,f6])
set_option maxHeartbeats 4000000 in
theorem zoh {z:Nat→Int} (hz:∀e,tlen (z e).natAbs≤9000):pf E0 356 [nM z]=some (nM (rinV z)):=by
 have o1:=zck 1 (by decide)
 refine zaf (xf:=zvt) rfl (by simp[zvt]) ?_
 simp only[zvt]
 simp(disch:=omega)only[go_sem,seval,wqq]
 refine zas zwO.eq_1 (fun(i:Nat) fr M=>i≤3∧fr 1=.p 0 0∧fr 2=.p 1 0∧fr 3=.p 2 0∧fr 4=(PV.i .i64 ((i:Nat):Int))∧∃c v G,M=some ⟨cN z,true,0⟩::some ⟨cT (sB 0) z,true,c⟩::some ⟨cT (sB (3*i)) (rinV z),true,v⟩::G) (fun i=>3-i) ?_ 0 ⟨by omega,by simp only[go_sem,seval],by simp only[go_sem,seval],by simp only[go_sem,seval],by simp only[go_sem,seval],_,_,[],rfl⟩
 rintro i fr M ⟨hi,f1,f2,f3,f4,c,v,G,rfl⟩ ih
 rcases Nat.lt_or_ge i 3 with h3|h3
 ·have q1:((i:Int)<3)=True:=eq_true (by omega)
  simp(disch:=omega)only[go_sem,seval,wqq,f1,f2,f3,f4,q1]
  refine zas zwM.eq_1 (fun(k:Nat) fr M=>k≤3∧fr 1=.p 0 0∧fr 2=.p 1 0∧fr 3=.p 2 0∧fr 4=(PV.i .i64 ((i:Nat):Int))∧fr 5=(PV.i .i64 ((k:Nat):Int))∧∃c v G,M=some ⟨cN z,true,0⟩::some ⟨cT (sB 0) z,true,c⟩::some ⟨cT (sB (3*i+k)) (rinV z),true,v⟩::G) (fun k=>3-k) ?_ 0 ⟨by omega,by simp only[go_sem,seval,f1],by simp only[go_sem,seval,f2],by simp only[go_sem,seval,f3],by simp only[go_sem,seval,f4],by simp only[go_sem,seval],c,v,G,rfl⟩
  rintro k fr M ⟨hk,f1,f2,f3,f4,f5,c,v,G,rfl⟩ ih2
  rcases Nat.lt_or_ge k 3 with h4|h4
  ·have q2:((k:Int)<3)=True:=eq_true (by omega)
   have dt:=zog (z:=uV z i k) (zoK hz i k)
   simp(disch:=omega)only[go_sem,seval,wqq,f1,f2,f3,f4,f5,q2,mG,mG0,sG,sG0,lG,lqq]
   refine zmR (k:=k) (G:=G) h3 (by simp only[go_sem,seval,f1]) (by simp only[go_sem,seval,f2]) (by simp only[go_sem,seval,f3]) (by simp only[go_sem,seval,f4]) (by simp only[go_sem,seval,f5]) (by simp only[go_sem,seval]) (by simp only[go_sem,seval]) ?_
   intro fr' v' g1 g2 g3 g4 g5 g6
   obtain rfl|rfl|rfl:=zdi h3<;>obtain rfl|rfl|rfl:=zdi h4
   ·have hU:psplice (cT (sB 9) (u0V z 0)) 0 [.b false,T 1]=cN (uV z 0 0):=rfl
    simp(disch:=omega)only[go_sem,seval,wqq,g1,g2,g3,g4,g5,g6,o1,hU,dt,mG,mG0,sG,sG0,lG,lqq]
    exact ih2 1 _ _ (by omega) ⟨by omega,by simp only[go_sem,seval,g1],by simp only[go_sem,seval,g2],by simp only[go_sem,seval,g3],by simp only[go_sem,seval,g4],by simp only[go_sem,seval],_,_,_,rfl⟩
   ·have hU:psplice (cT (sB 9) (u0V z 0)) 6 [.b false,T 1]=cN (uV z 0 1):=rfl
    simp(disch:=omega)only[go_sem,seval,wqq,g1,g2,g3,g4,g5,g6,o1,hU,dt,mG,mG0,sG,sG0,lG,lqq]
    exact ih2 2 _ _ (by omega) ⟨by omega,by simp only[go_sem,seval,g1],by simp only[go_sem,seval,g2],by simp only[go_sem,seval,g3],by simp only[go_sem,seval,g4],by simp only[go_sem,seval],_,_,_,rfl⟩
   ·have hU:psplice (cT (sB 9) (u0V z 0)) 12 [.b false,T 1]=cN (uV z 0 2):=rfl
    simp(disch:=omega)only[go_sem,seval,wqq,g1,g2,g3,g4,g5,g6,o1,hU,dt,mG,mG0,sG,sG0,lG,lqq]
    exact ih2 3 _ _ (by omega) ⟨by omega,by simp only[go_sem,seval,g1],by simp only[go_sem,seval,g2],by simp only[go_sem,seval,g3],by simp only[go_sem,seval,g4],by simp only[go_sem,seval],_,_,_,rfl⟩
   ·have hU:psplice (cT (sB 9) (u0V z 1)) 2 [.b false,T 1]=cN (uV z 1 0):=rfl
    simp(disch:=omega)only[go_sem,seval,wqq,g1,g2,g3,g4,g5,g6,o1,hU,dt,mG,mG0,sG,sG0,lG,lqq]
    exact ih2 1 _ _ (by omega) ⟨by omega,by simp only[go_sem,seval,g1],by simp only[go_sem,seval,g2],by simp only[go_sem,seval,g3],by simp only[go_sem,seval,g4],by simp only[go_sem,seval],_,_,_,rfl⟩
   ·have hU:psplice (cT (sB 9) (u0V z 1)) 8 [.b false,T 1]=cN (uV z 1 1):=rfl
    simp(disch:=omega)only[go_sem,seval,wqq,g1,g2,g3,g4,g5,g6,o1,hU,dt,mG,mG0,sG,sG0,lG,lqq]
    exact ih2 2 _ _ (by omega) ⟨by omega,by simp only[go_sem,seval,g1],by simp only[go_sem,seval,g2],by simp only[go_sem,seval,g3],by simp only[go_sem,seval,g4],by simp only[go_sem,seval],_,_,_,rfl⟩
   ·have hU:psplice (cT (sB 9) (u0V z 1)) 14 [.b false,T 1]=cN (uV z 1 2):=rfl
    simp(disch:=omega)only[go_sem,seval,wqq,g1,g2,g3,g4,g5,g6,o1,hU,dt,mG,mG0,sG,sG0,lG,lqq]
    exact ih2 3 _ _ (by omega) ⟨by omega,by simp only[go_sem,seval,g1],by simp only[go_sem,seval,g2],by simp only[go_sem,seval,g3],by simp only[go_sem,seval,g4],by simp only[go_sem,seval],_,_,_,rfl⟩
   ·have hU:psplice (cT (sB 9) (u0V z 2)) 4 [.b false,T 1]=cN (uV z 2 0):=rfl
    simp(disch:=omega)only[go_sem,seval,wqq,g1,g2,g3,g4,g5,g6,o1,hU,dt,mG,mG0,sG,sG0,lG,lqq]
    exact ih2 1 _ _ (by omega) ⟨by omega,by simp only[go_sem,seval,g1],by simp only[go_sem,seval,g2],by simp only[go_sem,seval,g3],by simp only[go_sem,seval,g4],by simp only[go_sem,seval],_,_,_,rfl⟩
   ·have hU:psplice (cT (sB 9) (u0V z 2)) 10 [.b false,T 1]=cN (uV z 2 1):=rfl
    simp(disch:=omega)only[go_sem,seval,wqq,g1,g2,g3,g4,g5,g6,o1,hU,dt,mG,mG0,sG,sG0,lG,lqq]
    exact ih2 2 _ _ (by omega) ⟨by omega,by simp only[go_sem,seval,g1],by simp only[go_sem,seval,g2],by simp only[go_sem,seval,g3],by simp only[go_sem,seval,g4],by simp only[go_sem,seval],_,_,_,rfl⟩
   ·have hU:psplice (cT (sB 9) (u0V z 2)) 16 [.b false,T 1]=cN (uV z 2 2):=rfl
    simp(disch:=omega)only[go_sem,seval,wqq,g1,g2,g3,g4,g5,g6,o1,hU,dt,mG,mG0,sG,sG0,lG,lqq]
    exact ih2 3 _ _ (by omega) ⟨by omega,by simp only[go_sem,seval,g1],by simp only[go_sem,seval,g2],by simp only[go_sem,seval,g3],by simp only[go_sem,seval,g4],by simp only[go_sem,seval],_,_,_,rfl⟩
  ·obtain rfl:k=3:=by omega
   simp(disch:=omega)only[go_sem,seval,wqq,f1,f2,f3,f4,f5]
   exact ih (i+1) _ _ (by omega) ⟨by omega,by simp only[go_sem,seval,f1],by simp only[go_sem,seval,f2],by simp only[go_sem,seval,f3],by simp only[go_sem,seval];rw[Int.natCast_succ],c,v,G,rfl⟩
 ·obtain rfl:i=3:=by omega
  have c9:cT (sB (3*3)) (rinV z)=cN (rinV z):=rfl
  simp(disch:=omega)only[go_sem,seval,wqq,f1,f2,f3,f4,c9]
end Go.Eng
namespace Go.Eng
theorem zcr (a b:Int):wlen (a*b).natAbs≤wlen a.natAbs+wlen b.natAbs:=by
 rw[Int.natAbs_mul]
 refine zaX.2 ?_
 rw[Nat.pow_add]
 exact Nat.mul_lt_mul'' (zam _) (zam _)
theorem zkq (a b:Nat):wlen (a+b)≤max (wlen a) (wlen b)+1:=by
 refine zaX.2 ?_
 have h1:4294967296^wlen a≤4294967296^max (wlen a) (wlen b):=Nat.pow_le_pow_right (by decide) (Nat.le_max_left _ _)
 have h2:4294967296^wlen b≤4294967296^max (wlen a) (wlen b):=Nat.pow_le_pow_right (by decide) (Nat.le_max_right _ _)
 have h3:=zam a
 have h4:=zam b
 rw[Nat.pow_succ]
 generalize 4294967296^max (wlen a) (wlen b)=t at *
 omega
theorem zcq (a b:Int):wlen (a+b).natAbs≤max (wlen a.natAbs) (wlen b.natAbs)+1 :=
 Nat.le_trans (zbs (Int.natAbs_add_le a b)) (zkq _ _)
theorem zfu (a b:Int):wlen (a-b).natAbs≤max (wlen a.natAbs) (wlen b.natAbs)+1:=by
 have:=zcq a (-b)
 rw[Int.natAbs_neg] at this
 rw[Int.sub_eq_add_neg];exact this
theorem zki {a b:WI} {n m:Nat} (ha:wlen a.v.natAbs≤n) (hb:wlen b.v.natAbs≤m) (h:n+m≤512):(tW a b).v=a.v*b.v∧wlen (a.v*b.v).natAbs≤n+m:=by
 have:=zcr a.v b.v
 exact⟨zdB (by omega),by omega⟩
theorem zm2 {a b:WI} {n m:Nat} (ha:wlen a.v.natAbs≤n) (hb:wlen b.v.natAbs≤m) (h:max n m+1≤512):(aW a b).v=a.v+b.v∧wlen (a.v+b.v).natAbs≤max n m+1:=by
 have:=zcq a.v b.v
 exact⟨zdB (by omega),by omega⟩
theorem ztX {a b:WI} {n m:Nat} (ha:wlen a.v.natAbs≤n) (hb:wlen b.v.natAbs≤m) (h:max n m+1≤512):(sW a b).v=a.v-b.v∧wlen (a.v-b.v).natAbs≤max n m+1:=by
 have:=zfu a.v b.v
 exact⟨zdB (by omega),by omega⟩
def mnV (X:Nat→Int) (i k:Nat):Int:=X (3*((i+1)%3)+(k+1)%3)*X (3*((i+2)%3)+(k+2)%3)-X (3*((i+1)%3)+(k+2)%3)*X (3*((i+2)%3)+(k+1)%3)
theorem znF {x:Nat→WI} {n:Nat} (hx:∀e,wlen (x e).v.natAbs≤n) (hn:n≤100) (i k:Nat):(mnW x i k).v=mnV (fun e=>(x e).v) i k∧wlen (mnW x i k).v.natAbs≤2*n+1:=by
 unfold mnW mnV
 obtain⟨a1,a2⟩:=zki (hx (3*((i+1)%3)+(k+1)%3)) (hx (3*((i+2)%3)+(k+2)%3)) (by omega)
 obtain⟨b1,b2⟩:=zki (hx (3*((i+1)%3)+(k+2)%3)) (hx (3*((i+2)%3)+(k+1)%3)) (by omega)
 rw[←a1] at a2
 rw[←b1] at b2
 obtain⟨c1,c2⟩:=ztX a2 b2 (by omega)
 rw[a1,b1] at c1
 exact⟨c1,by rw[←a1,←b1] at c1;rw[c1];omega⟩
theorem zo4 {x:Nat→WI} {n:Nat} (hx:∀e,wlen (x e).v.natAbs≤n) (hn:n≤100):(dtW x).v=rdV (fun e=>(x e).v):=by
 obtain⟨a1,a2⟩:=znF hx hn 0 0
 obtain⟨b1,b2⟩:=znF hx hn 0 1
 obtain⟨c1,c2⟩:=znF hx hn 0 2
 obtain⟨t1,u1⟩:=zki (hx 0) a2 (by omega)
 obtain⟨t2,u2⟩:=zki (hx 1) b2 (by omega)
 obtain⟨t3,u3⟩:=zki (hx 2) c2 (by omega)
 rw[←t1] at u1
 rw[←t2] at u2
 rw[←t3] at u3
 obtain⟨s1,v1⟩:=zm2 u1 u2 (by omega)
 rw[←s1] at v1
 obtain⟨s2,v2⟩:=zm2 v1 u3 (by omega)
 have e:(dtW x).v=(aW (aW (tW (x 0) (mnW x 0 0)) (tW (x 1) (mnW x 0 1))) (tW (x 2) (mnW x 0 2))).v:=rfl
 rw[e,s2,s1,t1,t2,t3,a1,b1,c1]
 unfold rdV rtK mnV
 simp only[Nat.reduceAdd,Nat.reduceMul,Nat.reduceMod]
 generalize (x 0).v=y0
 generalize (x 1).v=y1
 generalize (x 2).v=y2
 generalize (x 3).v=y3
 generalize (x 4).v=y4
 generalize (x 5).v=y5
 generalize (x 6).v=y6
 generalize (x 7).v=y7
 generalize (x 8).v=y8
 grind
theorem zrt (X:Nat→Int) {e:Nat} (he:e<9):rinV X e=mnV X (e%3) (e/3):=by
 unfold rinV rdV rtK uV u0V mnV
 obtain rfl|rfl|rfl|rfl|rfl|rfl|rfl|rfl|rfl:=zdc he <;>
 (simp<;>grind )
theorem ztV {x y:Nat→WI} {n:Nat} (hx:∀e,wlen (x e).v.natAbs≤n) (hy:∀e,wlen (y e).v.natAbs≤n) (hn:n≤100) (e:Nat):(prW x y e).v=rprV (fun e=>(x e).v) (fun e=>(y e).v) e:=by
 have e0:prW x y e=aW (aW (aW wi0 (tW (x (3*(e/3)+0)) (y (3*0+e%3)))) (tW (x (3*(e/3)+1)) (y (3*1+e%3)))) (tW (x (3*(e/3)+2)) (y (3*2+e%3))):=rfl
 obtain⟨t1,u1⟩:=zki (hx (3*(e/3)+0)) (hy (3*0+e%3)) (by omega)
 obtain⟨t2,u2⟩:=zki (hx (3*(e/3)+1)) (hy (3*1+e%3)) (by omega)
 obtain⟨t3,u3⟩:=zki (hx (3*(e/3)+2)) (hy (3*2+e%3)) (by omega)
 rw[←t1] at u1
 rw[←t2] at u2
 rw[←t3] at u3
 have z0:wlen wi0.v.natAbs≤0:=Nat.le_of_eq rfl
 obtain⟨s1,v1⟩:=zm2 z0 u1 (by omega)
 rw[←s1] at v1
 obtain⟨s2,v2⟩:=zm2 v1 u2 (by omega)
 rw[←s2] at v2
 obtain⟨s3,_⟩:=zm2 v2 u3 (by omega)
 rw[e0,s3,s2,s1,t1,t2,t3]
 unfold rprV rpK
 simp only[Nat.add_zero,Nat.mul_zero,Nat.mul_one,Nat.zero_add]
 rfl
end Go.Eng
namespace Go.Eng
theorem znJ {p:Nat→Int} (hp:∀e,Fits64 (p e)):(fun e=>(ofW p e).v)=p:=funext fun e=>zlQ (hp e)
theorem zeH {p:Nat→Int} (hp:∀e,Fits64 (p e)) (e:Nat):wlen (ofW p e).v.natAbs≤2:=by
 rw[zlQ (hp e)]
 have h:=hp e
 unfold Fits64 at h
 exact zcx (by omega)
theorem zbe {n:Int} (h:Fits64 n):tlen n.natAbs≤5:=by
 unfold Fits64 at h
 exact zav (by omega)
theorem zkG {p:Nat→Int} (hp:∀e,Fits64 (p e)):(dtW (ofW p)).v=rdV p:=by
 rw[zo4 (zeH hp) (by decide),znJ hp]
theorem zhV {X:Nat→Int}:∀{i:Nat},gN X i=0→∀e,e<i→X e=0
 | 0,_,e,h=>by omega
 | i+1,h,e,he=>by
  have h:Nat.gcd (gN X i) (X i).natAbs=0:=h
  obtain⟨h1,h2⟩:=Nat.gcd_eq_zero_iff.1 h
  rcases Nat.lt_or_ge e i with q|q
  ·exact zhV h1 e q
  ·obtain rfl:e=i:=by omega
   omega
theorem zhW {X Y:Nat→Int}:∀{i:Nat},(∀e,e<i→X e=Y e)→gN X i=gN Y i∧fN X i=fN Y i
 | 0,_=>⟨rfl,rfl⟩
 | i+1,h=>by
  obtain⟨a,b⟩:=zhW (i:=i) fun e he=>h e (by omega)
  have c:=h i (by omega)
  exact⟨by show Nat.gcd _ _=Nat.gcd _ _;rw[a,c],by show (if fN X i=0 then _ else _)=(if fN Y i=0 then _ else _);rw[b,c]⟩
theorem zkR {a b:Nat→Int} (h:∀e,e<9→a e=b e):pI a=pI b:=by
 unfold pI cI
 rw[h 0 (by decide),h 1 (by decide),h 2 (by decide),h 3 (by decide),h 4 (by decide),h 5 (by decide),h 6 (by decide),h 7 (by decide),h 8 (by decide)]
theorem znI {X Y:Nat→Int} (h:∀e,e<9→X e=Y e):pI (nfP X)=pI (nfP Y)∧nfE X=nfE Y:=by
 obtain⟨a,b⟩:=zhW h
 have ok:okN X↔okN Y:=by
  unfold okN
  rw[a]
  exact⟨fun q e he=>by rw[←h e he];exact q e he,fun q e he=>by rw[h e he];exact q e he⟩
 unfold nfP nfE
 by_cases hX:okN X
 ·rw[if_pos hX,if_pos hX,if_pos (ok.1 hX),if_pos (ok.1 hX)]
  exact⟨zkR fun e he=>by rw[a,b,h e he],rfl⟩
 ·rw[if_neg hX,if_neg hX,if_neg fun q=>hX (ok.2 q),if_neg fun q=>hX (ok.2 q)]
  exact⟨rfl,rfl⟩
theorem zmB {X:Nat→Int} (h:gN X 9=0):rdV X=0:=by
 have z:=zhV h
 unfold rdV rtK
 rw[z 0 (by decide),z 1 (by decide),z 2 (by decide)]
 simp
def adV (X:Nat→Int):Nat→Int:=fun e=>mnV X (e%3) (e/3)
theorem zmz (X:Nat→Int):rdV X=X 0*adV X 0+X 1*adV X 3+X 2*adV X 6:=by
 unfold rdV rtK adV mnV
 simp only[Nat.reduceAdd,Nat.reduceMul,Nat.reduceMod,Nat.reduceDiv]
 grind
theorem zlk {X:Nat→Int} (h:gN (adV X) 9=0):rdV X=0:=by
 have z:=zhV h
 rw[zmz,z 0 (by decide),z 3 (by decide),z 6 (by decide)]
 simp
theorem zov (X Y:Nat→Int):rdV (rprV X Y)=rdV X*rdV Y:=by
 unfold rdV rtK rprV rpK
 simp only[Nat.reduceAdd,Nat.reduceMul,Nat.reduceMod,Nat.reduceDiv,Nat.add_zero,Nat.zero_add,Nat.mul_zero]
 grind
end Go.Eng
namespace Go.Eng
@[go_sem] theorem sp9 (a b c d e f g h i:PV) (Y:Nat→Int):psplice [a,b,c,d,e,f,g,h,i] 0 (cI Y)=cI Y:=_root_.id rfl
theorem zou {X:Nat→Int} {n:Nat} (hX:∀e,tlen (X e).natAbs≤n):tlen (rdV X).natAbs≤3*n+4:=by
 have key:∀a b c d e:Int,tlen a.natAbs≤n→tlen b.natAbs≤n→tlen c.natAbs≤n→tlen d.natAbs≤n→tlen e.natAbs≤n→tlen (rtK a b c d e).natAbs≤3*n+1:=fun a b c d e ha hb hc hd he=>by
  have h1:=zaw b c
  have h2:=zaw a (b*c)
  have h3:=zaw d e
  have h4:=zaw a (d*e)
  have h5:=zfs (a*(b*c)) (a*(d*e))
  have h5:tlen (rtK a b c d e).natAbs≤max (tlen (a*(b*c)).natAbs) (tlen (a*(d*e)).natAbs)+1:=h5
  omega
 have k1:=key (X 0) (X 4) (X 8) (X 5) (X 7) (hX _) (hX _) (hX _) (hX _) (hX _)
 have k2:=key (X 1) (X 5) (X 6) (X 3) (X 8) (hX _) (hX _) (hX _) (hX _) (hX _)
 have k3:=key (X 2) (X 3) (X 7) (X 4) (X 6) (hX _) (hX _) (hX _) (hX _) (hX _)
 have a1:=zaV 0 (rtK (X 0) (X 4) (X 8) (X 5) (X 7))
 have a2:=zaV (0+rtK (X 0) (X 4) (X 8) (X 5) (X 7)) (rtK (X 1) (X 5) (X 6) (X 3) (X 8))
 have a3:=zaV (0+rtK (X 0) (X 4) (X 8) (X 5) (X 7)+rtK (X 1) (X 5) (X 6) (X 3) (X 8)) (rtK (X 2) (X 3) (X 7) (X 4) (X 6))
 rw[Int.natAbs_zero,zaE] at a1
 unfold rdV
 omega
theorem zoC {X Y:Nat→Int} {n:Nat} (hX:∀e,tlen (X e).natAbs≤n) (hY:∀e,tlen (Y e).natAbs≤n) (e:Nat):tlen (rprV X Y e).natAbs≤2*n+3:=by
 have key:∀a b c d e f:Int,tlen a.natAbs≤n→tlen b.natAbs≤n→tlen c.natAbs≤n→tlen d.natAbs≤n→tlen e.natAbs≤n→tlen f.natAbs≤n→tlen (rpK a b c d e f).natAbs≤2*n+3:=fun a b c d e f ha hb hc hd he hf=>by
  have h1:=zaw a b
  have h2:=zaw c d
  have h3:=zaw e f
  have h4:=zaV 0 (a*b)
  have h5:=zaV (0+a*b) (c*d)
  have h6:=zaV (0+a*b+c*d) (e*f)
  rw[Int.natAbs_zero,zaE] at h4
  have h6:tlen (rpK a b c d e f).natAbs≤max (tlen (0+a*b+c*d).natAbs) (tlen (e*f).natAbs)+1:=h6
  omega
 exact key _ _ _ _ _ _ (hX _) (hY _) (hX _) (hY _) (hX _) (hY _)
theorem zmQ {z:Nat→Int} {n:Nat} (hn:1≤n) (hz:∀e,tlen (z e).natAbs≤n) (i k e:Nat):tlen (uV z i k e).natAbs≤n:=by
 unfold uV u0V
 split
 ·exact Nat.le_trans (zk7 (by decide)) hn
 ·split
  ·rw[Int.natAbs_zero,zaE];omega
  ·exact hz e
theorem znm {p:Nat→Int} (hp:∀e,Fits64 (p e)) (h:vlP p=0):rdV p≠0:=fun q=>by
 unfold vlP at h
 split at h
 ·rw[zkG hp,q,if_pos rfl] at h;cases h
 ·cases h
open Classical in
noncomputable def IP (p:Nat→Int):Nat→Int:=if vlP p=0 then nfP (adV p) else zI
open Classical in
noncomputable def IE (p:Nat→Int):Int:=if vlP p=0 then nfE (adV p) else vlP p
theorem zrS {p:Nat→Int} (hp:∀e,Fits64 (p e)):(fun e=>(adW (ofW p) e).v)=adV p:=funext fun e=>by
 have:=(znF (zeH hp) (by decide) (e%3) (e/3)).1
 rw[znJ hp] at this
 exact this
theorem ziq {p:Nat→Int} (hp:∀e,Fits64 (p e)):pf E0 308 [pI p]=some (.tu [pI (IP p),.i .i64 (IE p)]):=by
 have hv:=zc1 hp
 have hm:=zmh hp
 have ha:=zmb (ofW p)
 unfold IP IE
 by_cases h:vlP p=0
 ·have hn:=ziC (adW (ofW p)) (by rw[zrS hp];exact fun q=>znm hp h (zlk q))
  rw[zrS hp] at hn
  rw[if_pos h,if_pos h]
  rw[h] at hv
  refine zaf (xf:=zuR) rfl (by simp[zuR]) ?_
  simp only[zuR]
  simp(disch:=omega)only[go_sem,seval,wqq,hv,hm,ha,hn]
 ·rw[if_neg h,if_neg h]
  generalize vlP p=V at *
  have h:(V=0)=False:=eq_false h
  refine zaf (xf:=zuR) rfl (by simp[zuR]) ?_
  simp only[zuR]
  simp(disch:=omega)only[go_sem,seval,wqq,hv,h,pI0]
end Go.Eng
