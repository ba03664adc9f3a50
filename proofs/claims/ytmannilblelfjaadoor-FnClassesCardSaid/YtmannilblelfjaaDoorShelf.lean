/- The contract of strings.Trim, laid at this program by the kit (lay-shelf.mjs, lay-plain.mjs). -/
import Derived.Shelf.Strings.SlTrimAscii
import Derived.Shelf.Strings.Trim
import Derived.Test.YtmannilblelfjaaDoorProg
namespace Go.Proofs
open Go.Shelf
def Tryd.lays160_ren : Go.Shelf.Ren := ⟨fun | 160 => 164 | 232 => 176 | 231 => 175 | 227 => 177 | 234 => 179 | 233 => 178 | 236 => 181 | 235 => 180 | 228 => 184 | 271 => 187 | 151 => 186 | 197 => 185 | 120 => 190 | 152 => 189 | 260 => 188 | 137 => 191 | 119 => 192 | 224 => 193 | 225 => 194 | 217 => 195 | 266 => 196 | n => n, fun | 9 => 9 | 4 => 4 | 3 => 3 | 5 => 5 | 117 => 155 | 116 => 154 | 0 => 0 | 124 => 158 | 21 => 21 | 105 => 162 | 46 => 167 | 119 => 166 | 139 => 170 | 138 => 169 | n => n, fun | 3 => 0 | 4 => 1 | n => n⟩
theorem Tryd.lays160 : Go.Proofs.Lays.n160 Tryd.prog Tryd.lays160_ren := {
  mixed := by kernel_rfl
  f119 := Tryd.func192.trans (congrArg some (by kernel_rfl))
  f120 := Tryd.func190.trans (congrArg some (by kernel_rfl))
  f137 := Tryd.func191.trans (congrArg some (by kernel_rfl))
  f151 := Tryd.func186.trans (congrArg some (by kernel_rfl))
  f152 := Tryd.func189.trans (congrArg some (by kernel_rfl))
  f160 := Tryd.func164.trans (congrArg some (by kernel_rfl))
  f197 := Tryd.func185.trans (congrArg some (by kernel_rfl))
  f217 := Tryd.func195.trans (congrArg some (by kernel_rfl))
  f224 := Tryd.func193.trans (congrArg some (by kernel_rfl))
  f225 := Tryd.func194.trans (congrArg some (by kernel_rfl))
  f227 := Tryd.func177.trans (congrArg some (by kernel_rfl))
  f228 := Tryd.func184.trans (congrArg some (by kernel_rfl))
  f231 := Tryd.func175.trans (congrArg some (by kernel_rfl))
  f232 := Tryd.func176.trans (congrArg some (by kernel_rfl))
  f233 := Tryd.func178.trans (congrArg some (by kernel_rfl))
  f234 := Tryd.func179.trans (congrArg some (by kernel_rfl))
  f235 := Tryd.func180.trans (congrArg some (by kernel_rfl))
  f236 := Tryd.func181.trans (congrArg some (by kernel_rfl))
  f260 := Tryd.func188.trans (congrArg some (by kernel_rfl))
  f266 := Tryd.func196.trans (congrArg some (by kernel_rfl))
  f271 := Tryd.func187.trans (congrArg some (by kernel_rfl))
  t0 := Tryd.underlying0
  a0 := Tryd.isAgg0
  z0 := Tryd.sizeOf0
  v0 := Tryd.zeroValue0
  t3 := Tryd.underlying3
  a3 := Tryd.isAgg3
  z3 := Tryd.sizeOf3
  v3 := Tryd.zeroValue3
  t4 := Tryd.underlying4
  a4 := Tryd.isAgg4
  z4 := Tryd.sizeOf4
  v4 := Tryd.zeroValue4
  t5 := Tryd.underlying5
  a5 := Tryd.isAgg5
  z5 := Tryd.sizeOf5
  v5 := Tryd.zeroValue5
  t9 := Tryd.underlying9
  a9 := Tryd.isAgg9
  z9 := Tryd.sizeOf9
  v9 := Tryd.zeroValue9
  t21 := Tryd.underlying21
  a21 := Tryd.isAgg21
  z21 := Tryd.sizeOf21
  v21 := Tryd.zeroValue21
  t46 := Tryd.underlying167
  a46 := Tryd.isAgg167
  z46 := Tryd.sizeOf167
  v46 := Tryd.zeroValue167
  t105 := Tryd.underlying162
  a105 := Tryd.isAgg162
  z105 := Tryd.sizeOf162
  v105 := Tryd.zeroValue162
  t116 := Tryd.underlying154
  a116 := Tryd.isAgg154
  z116 := Tryd.sizeOf154
  t117 := Tryd.underlying155
  a117 := Tryd.isAgg155
  z117 := Tryd.sizeOf155
  v117 := Tryd.zeroValue155
  t119 := Tryd.underlying166
  a119 := Tryd.isAgg166
  z119 := Tryd.sizeOf166
  t124 := Tryd.underlying158
  a124 := Tryd.isAgg158
  z124 := Tryd.sizeOf158
  v124 := Tryd.zeroValue158
  t138 := Tryd.underlying169
  a138 := Tryd.isAgg169
  z138 := Tryd.sizeOf169
  v138 := Tryd.zeroValue169
  t139 := Tryd.underlying170
  a139 := Tryd.isAgg170
  z139 := Tryd.sizeOf170
  v139 := Tryd.zeroValue170
  g3 := by kernel_rfl
  g4 := by kernel_rfl }
open Go.RowKit in
theorem Tryd.strings_Trim_one (s : ByteArray) (c : UInt8) (hc : c.toNat < 128) (w : World) (hs : s.size ≤ 9223372036854775807) :
    Calls Tryd.prog 164 #[.string s, .string ⟨#[c]⟩] w fun e w' => e = .returned (.string ⟨(Lib.trimB s.data.toList c).toArray⟩) ∧ (w' = w ∨ w' = w.drew) := Any.strings_Trim_one Tryd.lays160 s c hc w hs
end Go.Proofs
