/- DiskPlays, walked. -/
import Derived.Test.YtddabjlhidokaaaDkK
import Derived.Test.YtddabjlhidokaaaDkRA
import Derived.Test.YtddabjlhidokaaaDkRB
import Derived.Test.YtddabjlhidokaaaDkQ
namespace Go.Proofs.Ytddabjlhidokaaa
open Go.RowKit
open Mur (Fil Dk Dsk DskF Byt b8s foot hasF fE)
set_option maxRecDepth 100000
set_option maxHeartbeats 4000000
def Plays_F1 (b : Array Value) (u3 : Value) (u4 : Value) (u5 : Value) (u32 : Value) (u33 : Value) (u34 : Value) : Act := ⟨#[b.getD 0 undef, b.getD 1 undef, b.getD 2 undef, u3, u4, u5, b.getD 6 undef, b.getD 7 undef, b.getD 8 undef, b.getD 9 undef, b.getD 10 undef, b.getD 11 undef, b.getD 12 undef, b.getD 13 undef, b.getD 14 undef, b.getD 15 undef, b.getD 16 undef, b.getD 17 undef, b.getD 18 undef, b.getD 19 undef, b.getD 20 undef, b.getD 21 undef, b.getD 22 undef, b.getD 23 undef, b.getD 24 undef, b.getD 25 undef, b.getD 26 undef, b.getD 27 undef, b.getD 28 undef, b.getD 29 undef, b.getD 30 undef, b.getD 31 undef, u32, u33, u34, b.getD 35 undef, b.getD 36 undef, b.getD 37 undef, b.getD 38 undef, b.getD 39 undef, b.getD 40 undef, b.getD 41 undef, b.getD 42 undef, b.getD 43 undef, b.getD 44 undef, b.getD 45 undef, b.getD 46 undef, b.getD 47 undef, b.getD 48 undef, b.getD 49 undef, b.getD 50 undef, b.getD 51 undef, b.getD 52 undef, b.getD 53 undef, b.getD 54 undef, b.getD 55 undef, b.getD 56 undef, b.getD 57 undef, b.getD 58 undef, b.getD 59 undef, b.getD 60 undef, b.getD 61 undef, b.getD 62 undef, b.getD 63 undef, b.getD 64 undef, b.getD 65 undef, b.getD 66 undef, b.getD 67 undef, b.getD 68 undef, b.getD 69 undef, b.getD 70 undef, b.getD 71 undef, b.getD 72 undef, b.getD 73 undef, b.getD 74 undef, b.getD 75 undef, b.getD 76 undef, b.getD 77 undef, b.getD 78 undef, b.getD 79 undef, b.getD 80 undef, b.getD 81 undef, b.getD 82 undef, b.getD 83 undef, b.getD 84 undef, b.getD 85 undef, b.getD 86 undef, b.getD 87 undef, b.getD 88 undef, b.getD 89 undef, b.getD 90 undef, b.getD 91 undef, b.getD 92 undef, b.getD 93 undef, b.getD 94 undef, b.getD 95 undef, b.getD 96 undef, b.getD 97 undef, b.getD 98 undef, b.getD 99 undef, b.getD 100 undef, b.getD 101 undef, b.getD 102 undef, b.getD 103 undef, b.getD 104 undef, b.getD 105 undef, b.getD 106 undef, b.getD 107 undef, b.getD 108 undef, b.getD 109 undef, b.getD 110 undef, b.getD 111 undef, b.getD 112 undef, b.getD 113 undef, b.getD 114 undef, b.getD 115 undef, b.getD 116 undef, b.getD 117 undef, b.getD 118 undef, b.getD 119 undef, b.getD 120 undef, b.getD 121 undef, b.getD 122 undef, b.getD 123 undef, b.getD 124 undef, b.getD 125 undef, b.getD 126 undef, b.getD 127 undef, b.getD 128 undef, b.getD 129 undef, b.getD 130 undef, b.getD 131 undef, b.getD 132 undef, b.getD 133 undef, b.getD 134 undef, b.getD 135 undef, b.getD 136 undef, b.getD 137 undef, b.getD 138 undef, b.getD 139 undef, b.getD 140 undef, b.getD 141 undef, b.getD 142 undef, b.getD 143 undef, b.getD 144 undef, b.getD 145 undef, b.getD 146 undef, b.getD 147 undef, b.getD 148 undef, b.getD 149 undef, b.getD 150 undef, b.getD 151 undef, b.getD 152 undef, b.getD 153 undef, b.getD 154 undef, b.getD 155 undef, b.getD 156 undef, b.getD 157 undef, b.getD 158 undef, b.getD 159 undef, b.getD 160 undef, b.getD 161 undef, b.getD 162 undef, b.getD 163 undef, b.getD 164 undef, b.getD 165 undef, b.getD 166 undef, b.getD 167 undef, b.getD 168 undef, b.getD 169 undef, b.getD 170 undef, b.getD 171 undef, b.getD 172 undef, b.getD 173 undef, b.getD 174 undef, b.getD 175 undef, b.getD 176 undef, b.getD 177 undef, b.getD 178 undef, b.getD 179 undef, b.getD 180 undef, b.getD 181 undef, b.getD 182 undef, b.getD 183 undef, b.getD 184 undef, b.getD 185 undef, b.getD 186 undef, b.getD 187 undef, b.getD 188 undef, b.getD 189 undef, b.getD 190 undef, b.getD 191 undef, b.getD 192 undef, b.getD 193 undef, b.getD 194 undef, b.getD 195 undef, b.getD 196 undef, b.getD 197 undef, b.getD 198 undef, b.getD 199 undef, b.getD 200 undef, b.getD 201 undef, b.getD 202 undef, b.getD 203 undef, b.getD 204 undef, b.getD 205 undef, b.getD 206 undef, b.getD 207 undef, b.getD 208 undef, b.getD 209 undef, b.getD 210 undef, b.getD 211 undef, b.getD 212 undef, b.getD 213 undef, b.getD 214 undef, b.getD 215 undef, b.getD 216 undef, b.getD 217 undef, b.getD 218 undef, b.getD 219 undef, b.getD 220 undef, b.getD 221 undef, b.getD 222 undef, b.getD 223 undef, b.getD 224 undef, b.getD 225 undef, b.getD 226 undef, b.getD 227 undef, b.getD 228 undef, b.getD 229 undef, b.getD 230 undef, b.getD 231 undef], []⟩
def Plays_J9_1 (b : Array Value) (u3 : Value) (u4 : Value) (u5 : Value) (u7 : Value) (u8 : Value) (u9 : Value) (u32 : Value) (u33 : Value) (u34 : Value) : Act := ⟨#[b.getD 0 undef, b.getD 1 undef, b.getD 2 undef, u3, u4, u5, b.getD 6 undef, u7, u8, u9, b.getD 10 undef, b.getD 11 undef, b.getD 12 undef, b.getD 13 undef, b.getD 14 undef, b.getD 15 undef, b.getD 16 undef, b.getD 17 undef, b.getD 18 undef, b.getD 19 undef, b.getD 20 undef, b.getD 21 undef, b.getD 22 undef, b.getD 23 undef, b.getD 24 undef, b.getD 25 undef, b.getD 26 undef, b.getD 27 undef, b.getD 28 undef, b.getD 29 undef, b.getD 30 undef, b.getD 31 undef, u32, u33, u34, b.getD 35 undef, b.getD 36 undef, b.getD 37 undef, b.getD 38 undef, b.getD 39 undef, b.getD 40 undef, b.getD 41 undef, b.getD 42 undef, b.getD 43 undef, b.getD 44 undef, b.getD 45 undef, b.getD 46 undef, b.getD 47 undef, b.getD 48 undef, b.getD 49 undef, b.getD 50 undef, b.getD 51 undef, b.getD 52 undef, b.getD 53 undef, b.getD 54 undef, b.getD 55 undef, b.getD 56 undef, b.getD 57 undef, b.getD 58 undef, b.getD 59 undef, b.getD 60 undef, b.getD 61 undef, b.getD 62 undef, b.getD 63 undef, b.getD 64 undef, b.getD 65 undef, b.getD 66 undef, b.getD 67 undef, b.getD 68 undef, b.getD 69 undef, b.getD 70 undef, b.getD 71 undef, b.getD 72 undef, b.getD 73 undef, b.getD 74 undef, b.getD 75 undef, b.getD 76 undef, b.getD 77 undef, b.getD 78 undef, b.getD 79 undef, b.getD 80 undef, b.getD 81 undef, b.getD 82 undef, b.getD 83 undef, b.getD 84 undef, b.getD 85 undef, b.getD 86 undef, b.getD 87 undef, b.getD 88 undef, b.getD 89 undef, b.getD 90 undef, b.getD 91 undef, b.getD 92 undef, b.getD 93 undef, b.getD 94 undef, b.getD 95 undef, b.getD 96 undef, b.getD 97 undef, b.getD 98 undef, b.getD 99 undef, b.getD 100 undef, b.getD 101 undef, b.getD 102 undef, b.getD 103 undef, b.getD 104 undef, b.getD 105 undef, b.getD 106 undef, b.getD 107 undef, b.getD 108 undef, b.getD 109 undef, b.getD 110 undef, b.getD 111 undef, b.getD 112 undef, b.getD 113 undef, b.getD 114 undef, b.getD 115 undef, b.getD 116 undef, b.getD 117 undef, b.getD 118 undef, b.getD 119 undef, b.getD 120 undef, b.getD 121 undef, b.getD 122 undef, b.getD 123 undef, b.getD 124 undef, b.getD 125 undef, b.getD 126 undef, b.getD 127 undef, b.getD 128 undef, b.getD 129 undef, b.getD 130 undef, b.getD 131 undef, b.getD 132 undef, b.getD 133 undef, b.getD 134 undef, b.getD 135 undef, b.getD 136 undef, b.getD 137 undef, b.getD 138 undef, b.getD 139 undef, b.getD 140 undef, b.getD 141 undef, b.getD 142 undef, b.getD 143 undef, b.getD 144 undef, b.getD 145 undef, b.getD 146 undef, b.getD 147 undef, b.getD 148 undef, b.getD 149 undef, b.getD 150 undef, b.getD 151 undef, b.getD 152 undef, b.getD 153 undef, b.getD 154 undef, b.getD 155 undef, b.getD 156 undef, b.getD 157 undef, b.getD 158 undef, b.getD 159 undef, b.getD 160 undef, b.getD 161 undef, b.getD 162 undef, b.getD 163 undef, b.getD 164 undef, b.getD 165 undef, b.getD 166 undef, b.getD 167 undef, b.getD 168 undef, b.getD 169 undef, b.getD 170 undef, b.getD 171 undef, b.getD 172 undef, b.getD 173 undef, b.getD 174 undef, b.getD 175 undef, b.getD 176 undef, b.getD 177 undef, b.getD 178 undef, b.getD 179 undef, b.getD 180 undef, b.getD 181 undef, b.getD 182 undef, b.getD 183 undef, b.getD 184 undef, b.getD 185 undef, b.getD 186 undef, b.getD 187 undef, b.getD 188 undef, b.getD 189 undef, b.getD 190 undef, b.getD 191 undef, b.getD 192 undef, b.getD 193 undef, b.getD 194 undef, b.getD 195 undef, b.getD 196 undef, b.getD 197 undef, b.getD 198 undef, b.getD 199 undef, b.getD 200 undef, b.getD 201 undef, b.getD 202 undef, b.getD 203 undef, b.getD 204 undef, b.getD 205 undef, b.getD 206 undef, b.getD 207 undef, b.getD 208 undef, b.getD 209 undef, b.getD 210 undef, b.getD 211 undef, b.getD 212 undef, b.getD 213 undef, b.getD 214 undef, b.getD 215 undef, b.getD 216 undef, b.getD 217 undef, b.getD 218 undef, b.getD 219 undef, b.getD 220 undef, b.getD 221 undef, b.getD 222 undef, b.getD 223 undef, b.getD 224 undef, b.getD 225 undef, b.getD 226 undef, b.getD 227 undef, b.getD 228 undef, b.getD 229 undef, b.getD 230 undef, b.getD 231 undef], []⟩
def Plays_J11_2 (b : Array Value) (u3 : Value) (u4 : Value) (u5 : Value) (u8 : Value) (u9 : Value) (u32 : Value) (u33 : Value) (u34 : Value) : Act := ⟨#[b.getD 0 undef, b.getD 1 undef, b.getD 2 undef, u3, u4, u5, b.getD 6 undef, b.getD 7 undef, u8, u9, b.getD 10 undef, b.getD 11 undef, b.getD 12 undef, b.getD 13 undef, b.getD 14 undef, b.getD 15 undef, b.getD 16 undef, b.getD 17 undef, b.getD 18 undef, b.getD 19 undef, b.getD 20 undef, b.getD 21 undef, b.getD 22 undef, b.getD 23 undef, b.getD 24 undef, b.getD 25 undef, b.getD 26 undef, b.getD 27 undef, b.getD 28 undef, b.getD 29 undef, b.getD 30 undef, b.getD 31 undef, u32, u33, u34, b.getD 35 undef, b.getD 36 undef, b.getD 37 undef, b.getD 38 undef, b.getD 39 undef, b.getD 40 undef, b.getD 41 undef, b.getD 42 undef, b.getD 43 undef, b.getD 44 undef, b.getD 45 undef, b.getD 46 undef, b.getD 47 undef, b.getD 48 undef, b.getD 49 undef, b.getD 50 undef, b.getD 51 undef, b.getD 52 undef, b.getD 53 undef, b.getD 54 undef, b.getD 55 undef, b.getD 56 undef, b.getD 57 undef, b.getD 58 undef, b.getD 59 undef, b.getD 60 undef, b.getD 61 undef, b.getD 62 undef, b.getD 63 undef, b.getD 64 undef, b.getD 65 undef, b.getD 66 undef, b.getD 67 undef, b.getD 68 undef, b.getD 69 undef, b.getD 70 undef, b.getD 71 undef, b.getD 72 undef, b.getD 73 undef, b.getD 74 undef, b.getD 75 undef, b.getD 76 undef, b.getD 77 undef, b.getD 78 undef, b.getD 79 undef, b.getD 80 undef, b.getD 81 undef, b.getD 82 undef, b.getD 83 undef, b.getD 84 undef, b.getD 85 undef, b.getD 86 undef, b.getD 87 undef, b.getD 88 undef, b.getD 89 undef, b.getD 90 undef, b.getD 91 undef, b.getD 92 undef, b.getD 93 undef, b.getD 94 undef, b.getD 95 undef, b.getD 96 undef, b.getD 97 undef, b.getD 98 undef, b.getD 99 undef, b.getD 100 undef, b.getD 101 undef, b.getD 102 undef, b.getD 103 undef, b.getD 104 undef, b.getD 105 undef, b.getD 106 undef, b.getD 107 undef, b.getD 108 undef, b.getD 109 undef, b.getD 110 undef, b.getD 111 undef, b.getD 112 undef, b.getD 113 undef, b.getD 114 undef, b.getD 115 undef, b.getD 116 undef, b.getD 117 undef, b.getD 118 undef, b.getD 119 undef, b.getD 120 undef, b.getD 121 undef, b.getD 122 undef, b.getD 123 undef, b.getD 124 undef, b.getD 125 undef, b.getD 126 undef, b.getD 127 undef, b.getD 128 undef, b.getD 129 undef, b.getD 130 undef, b.getD 131 undef, b.getD 132 undef, b.getD 133 undef, b.getD 134 undef, b.getD 135 undef, b.getD 136 undef, b.getD 137 undef, b.getD 138 undef, b.getD 139 undef, b.getD 140 undef, b.getD 141 undef, b.getD 142 undef, b.getD 143 undef, b.getD 144 undef, b.getD 145 undef, b.getD 146 undef, b.getD 147 undef, b.getD 148 undef, b.getD 149 undef, b.getD 150 undef, b.getD 151 undef, b.getD 152 undef, b.getD 153 undef, b.getD 154 undef, b.getD 155 undef, b.getD 156 undef, b.getD 157 undef, b.getD 158 undef, b.getD 159 undef, b.getD 160 undef, b.getD 161 undef, b.getD 162 undef, b.getD 163 undef, b.getD 164 undef, b.getD 165 undef, b.getD 166 undef, b.getD 167 undef, b.getD 168 undef, b.getD 169 undef, b.getD 170 undef, b.getD 171 undef, b.getD 172 undef, b.getD 173 undef, b.getD 174 undef, b.getD 175 undef, b.getD 176 undef, b.getD 177 undef, b.getD 178 undef, b.getD 179 undef, b.getD 180 undef, b.getD 181 undef, b.getD 182 undef, b.getD 183 undef, b.getD 184 undef, b.getD 185 undef, b.getD 186 undef, b.getD 187 undef, b.getD 188 undef, b.getD 189 undef, b.getD 190 undef, b.getD 191 undef, b.getD 192 undef, b.getD 193 undef, b.getD 194 undef, b.getD 195 undef, b.getD 196 undef, b.getD 197 undef, b.getD 198 undef, b.getD 199 undef, b.getD 200 undef, b.getD 201 undef, b.getD 202 undef, b.getD 203 undef, b.getD 204 undef, b.getD 205 undef, b.getD 206 undef, b.getD 207 undef, b.getD 208 undef, b.getD 209 undef, b.getD 210 undef, b.getD 211 undef, b.getD 212 undef, b.getD 213 undef, b.getD 214 undef, b.getD 215 undef, b.getD 216 undef, b.getD 217 undef, b.getD 218 undef, b.getD 219 undef, b.getD 220 undef, b.getD 221 undef, b.getD 222 undef, b.getD 223 undef, b.getD 224 undef, b.getD 225 undef, b.getD 226 undef, b.getD 227 undef, b.getD 228 undef, b.getD 229 undef, b.getD 230 undef, b.getD 231 undef], []⟩
def Plays_J16_3 (b : Array Value) (u3 : Value) (u4 : Value) (u5 : Value) (u7 : Value) (u10 : Value) (u32 : Value) (u33 : Value) (u34 : Value) : Act := ⟨#[b.getD 0 undef, b.getD 1 undef, b.getD 2 undef, u3, u4, u5, b.getD 6 undef, u7, b.getD 8 undef, b.getD 9 undef, u10, b.getD 11 undef, b.getD 12 undef, b.getD 13 undef, b.getD 14 undef, b.getD 15 undef, b.getD 16 undef, b.getD 17 undef, b.getD 18 undef, b.getD 19 undef, b.getD 20 undef, b.getD 21 undef, b.getD 22 undef, b.getD 23 undef, b.getD 24 undef, b.getD 25 undef, b.getD 26 undef, b.getD 27 undef, b.getD 28 undef, b.getD 29 undef, b.getD 30 undef, b.getD 31 undef, u32, u33, u34, b.getD 35 undef, b.getD 36 undef, b.getD 37 undef, b.getD 38 undef, b.getD 39 undef, b.getD 40 undef, b.getD 41 undef, b.getD 42 undef, b.getD 43 undef, b.getD 44 undef, b.getD 45 undef, b.getD 46 undef, b.getD 47 undef, b.getD 48 undef, b.getD 49 undef, b.getD 50 undef, b.getD 51 undef, b.getD 52 undef, b.getD 53 undef, b.getD 54 undef, b.getD 55 undef, b.getD 56 undef, b.getD 57 undef, b.getD 58 undef, b.getD 59 undef, b.getD 60 undef, b.getD 61 undef, b.getD 62 undef, b.getD 63 undef, b.getD 64 undef, b.getD 65 undef, b.getD 66 undef, b.getD 67 undef, b.getD 68 undef, b.getD 69 undef, b.getD 70 undef, b.getD 71 undef, b.getD 72 undef, b.getD 73 undef, b.getD 74 undef, b.getD 75 undef, b.getD 76 undef, b.getD 77 undef, b.getD 78 undef, b.getD 79 undef, b.getD 80 undef, b.getD 81 undef, b.getD 82 undef, b.getD 83 undef, b.getD 84 undef, b.getD 85 undef, b.getD 86 undef, b.getD 87 undef, b.getD 88 undef, b.getD 89 undef, b.getD 90 undef, b.getD 91 undef, b.getD 92 undef, b.getD 93 undef, b.getD 94 undef, b.getD 95 undef, b.getD 96 undef, b.getD 97 undef, b.getD 98 undef, b.getD 99 undef, b.getD 100 undef, b.getD 101 undef, b.getD 102 undef, b.getD 103 undef, b.getD 104 undef, b.getD 105 undef, b.getD 106 undef, b.getD 107 undef, b.getD 108 undef, b.getD 109 undef, b.getD 110 undef, b.getD 111 undef, b.getD 112 undef, b.getD 113 undef, b.getD 114 undef, b.getD 115 undef, b.getD 116 undef, b.getD 117 undef, b.getD 118 undef, b.getD 119 undef, b.getD 120 undef, b.getD 121 undef, b.getD 122 undef, b.getD 123 undef, b.getD 124 undef, b.getD 125 undef, b.getD 126 undef, b.getD 127 undef, b.getD 128 undef, b.getD 129 undef, b.getD 130 undef, b.getD 131 undef, b.getD 132 undef, b.getD 133 undef, b.getD 134 undef, b.getD 135 undef, b.getD 136 undef, b.getD 137 undef, b.getD 138 undef, b.getD 139 undef, b.getD 140 undef, b.getD 141 undef, b.getD 142 undef, b.getD 143 undef, b.getD 144 undef, b.getD 145 undef, b.getD 146 undef, b.getD 147 undef, b.getD 148 undef, b.getD 149 undef, b.getD 150 undef, b.getD 151 undef, b.getD 152 undef, b.getD 153 undef, b.getD 154 undef, b.getD 155 undef, b.getD 156 undef, b.getD 157 undef, b.getD 158 undef, b.getD 159 undef, b.getD 160 undef, b.getD 161 undef, b.getD 162 undef, b.getD 163 undef, b.getD 164 undef, b.getD 165 undef, b.getD 166 undef, b.getD 167 undef, b.getD 168 undef, b.getD 169 undef, b.getD 170 undef, b.getD 171 undef, b.getD 172 undef, b.getD 173 undef, b.getD 174 undef, b.getD 175 undef, b.getD 176 undef, b.getD 177 undef, b.getD 178 undef, b.getD 179 undef, b.getD 180 undef, b.getD 181 undef, b.getD 182 undef, b.getD 183 undef, b.getD 184 undef, b.getD 185 undef, b.getD 186 undef, b.getD 187 undef, b.getD 188 undef, b.getD 189 undef, b.getD 190 undef, b.getD 191 undef, b.getD 192 undef, b.getD 193 undef, b.getD 194 undef, b.getD 195 undef, b.getD 196 undef, b.getD 197 undef, b.getD 198 undef, b.getD 199 undef, b.getD 200 undef, b.getD 201 undef, b.getD 202 undef, b.getD 203 undef, b.getD 204 undef, b.getD 205 undef, b.getD 206 undef, b.getD 207 undef, b.getD 208 undef, b.getD 209 undef, b.getD 210 undef, b.getD 211 undef, b.getD 212 undef, b.getD 213 undef, b.getD 214 undef, b.getD 215 undef, b.getD 216 undef, b.getD 217 undef, b.getD 218 undef, b.getD 219 undef, b.getD 220 undef, b.getD 221 undef, b.getD 222 undef, b.getD 223 undef, b.getD 224 undef, b.getD 225 undef, b.getD 226 undef, b.getD 227 undef, b.getD 228 undef, b.getD 229 undef, b.getD 230 undef, b.getD 231 undef], []⟩
def Plays_F2 (b : Array Value) (u3 : Value) (u4 : Value) (u5 : Value) (u8 : Value) (u9 : Value) (u11 : Value) (u32 : Value) (u33 : Value) (u34 : Value) (u96 : Value) (u97 : Value) : Act := ⟨#[b.getD 0 undef, b.getD 1 undef, b.getD 2 undef, u3, u4, u5, b.getD 6 undef, b.getD 7 undef, u8, u9, b.getD 10 undef, u11, b.getD 12 undef, b.getD 13 undef, b.getD 14 undef, b.getD 15 undef, b.getD 16 undef, b.getD 17 undef, b.getD 18 undef, b.getD 19 undef, b.getD 20 undef, b.getD 21 undef, b.getD 22 undef, b.getD 23 undef, b.getD 24 undef, b.getD 25 undef, b.getD 26 undef, b.getD 27 undef, b.getD 28 undef, b.getD 29 undef, b.getD 30 undef, b.getD 31 undef, u32, u33, u34, b.getD 35 undef, b.getD 36 undef, b.getD 37 undef, b.getD 38 undef, b.getD 39 undef, b.getD 40 undef, b.getD 41 undef, b.getD 42 undef, b.getD 43 undef, b.getD 44 undef, b.getD 45 undef, b.getD 46 undef, b.getD 47 undef, b.getD 48 undef, b.getD 49 undef, b.getD 50 undef, b.getD 51 undef, b.getD 52 undef, b.getD 53 undef, b.getD 54 undef, b.getD 55 undef, b.getD 56 undef, b.getD 57 undef, b.getD 58 undef, b.getD 59 undef, b.getD 60 undef, b.getD 61 undef, b.getD 62 undef, b.getD 63 undef, b.getD 64 undef, b.getD 65 undef, b.getD 66 undef, b.getD 67 undef, b.getD 68 undef, b.getD 69 undef, b.getD 70 undef, b.getD 71 undef, b.getD 72 undef, b.getD 73 undef, b.getD 74 undef, b.getD 75 undef, b.getD 76 undef, b.getD 77 undef, b.getD 78 undef, b.getD 79 undef, b.getD 80 undef, b.getD 81 undef, b.getD 82 undef, b.getD 83 undef, b.getD 84 undef, b.getD 85 undef, b.getD 86 undef, b.getD 87 undef, b.getD 88 undef, b.getD 89 undef, b.getD 90 undef, b.getD 91 undef, b.getD 92 undef, b.getD 93 undef, b.getD 94 undef, b.getD 95 undef, u96, u97, b.getD 98 undef, b.getD 99 undef, b.getD 100 undef, b.getD 101 undef, b.getD 102 undef, b.getD 103 undef, b.getD 104 undef, b.getD 105 undef, b.getD 106 undef, b.getD 107 undef, b.getD 108 undef, b.getD 109 undef, b.getD 110 undef, b.getD 111 undef, b.getD 112 undef, b.getD 113 undef, b.getD 114 undef, b.getD 115 undef, b.getD 116 undef, b.getD 117 undef, b.getD 118 undef, b.getD 119 undef, b.getD 120 undef, b.getD 121 undef, b.getD 122 undef, b.getD 123 undef, b.getD 124 undef, b.getD 125 undef, b.getD 126 undef, b.getD 127 undef, b.getD 128 undef, b.getD 129 undef, b.getD 130 undef, b.getD 131 undef, b.getD 132 undef, b.getD 133 undef, b.getD 134 undef, b.getD 135 undef, b.getD 136 undef, b.getD 137 undef, b.getD 138 undef, b.getD 139 undef, b.getD 140 undef, b.getD 141 undef, b.getD 142 undef, b.getD 143 undef, b.getD 144 undef, b.getD 145 undef, b.getD 146 undef, b.getD 147 undef, b.getD 148 undef, b.getD 149 undef, b.getD 150 undef, b.getD 151 undef, b.getD 152 undef, b.getD 153 undef, b.getD 154 undef, b.getD 155 undef, b.getD 156 undef, b.getD 157 undef, b.getD 158 undef, b.getD 159 undef, b.getD 160 undef, b.getD 161 undef, b.getD 162 undef, b.getD 163 undef, b.getD 164 undef, b.getD 165 undef, b.getD 166 undef, b.getD 167 undef, b.getD 168 undef, b.getD 169 undef, b.getD 170 undef, b.getD 171 undef, b.getD 172 undef, b.getD 173 undef, b.getD 174 undef, b.getD 175 undef, b.getD 176 undef, b.getD 177 undef, b.getD 178 undef, b.getD 179 undef, b.getD 180 undef, b.getD 181 undef, b.getD 182 undef, b.getD 183 undef, b.getD 184 undef, b.getD 185 undef, b.getD 186 undef, b.getD 187 undef, b.getD 188 undef, b.getD 189 undef, b.getD 190 undef, b.getD 191 undef, b.getD 192 undef, b.getD 193 undef, b.getD 194 undef, b.getD 195 undef, b.getD 196 undef, b.getD 197 undef, b.getD 198 undef, b.getD 199 undef, b.getD 200 undef, b.getD 201 undef, b.getD 202 undef, b.getD 203 undef, b.getD 204 undef, b.getD 205 undef, b.getD 206 undef, b.getD 207 undef, b.getD 208 undef, b.getD 209 undef, b.getD 210 undef, b.getD 211 undef, b.getD 212 undef, b.getD 213 undef, b.getD 214 undef, b.getD 215 undef, b.getD 216 undef, b.getD 217 undef, b.getD 218 undef, b.getD 219 undef, b.getD 220 undef, b.getD 221 undef, b.getD 222 undef, b.getD 223 undef, b.getD 224 undef, b.getD 225 undef, b.getD 226 undef, b.getD 227 undef, b.getD 228 undef, b.getD 229 undef, b.getD 230 undef, b.getD 231 undef], []⟩
def Plays_J16_4 (b : Array Value) (u3 : Value) (u4 : Value) (u5 : Value) (u7 : Value) (u10 : Value) (u32 : Value) (u33 : Value) (u34 : Value) : Act := ⟨#[b.getD 0 undef, b.getD 1 undef, b.getD 2 undef, u3, u4, u5, b.getD 6 undef, u7, b.getD 8 undef, b.getD 9 undef, u10, b.getD 11 undef, b.getD 12 undef, b.getD 13 undef, b.getD 14 undef, b.getD 15 undef, b.getD 16 undef, b.getD 17 undef, b.getD 18 undef, b.getD 19 undef, b.getD 20 undef, b.getD 21 undef, b.getD 22 undef, b.getD 23 undef, b.getD 24 undef, b.getD 25 undef, b.getD 26 undef, b.getD 27 undef, b.getD 28 undef, b.getD 29 undef, b.getD 30 undef, b.getD 31 undef, u32, u33, u34, b.getD 35 undef, b.getD 36 undef, b.getD 37 undef, b.getD 38 undef, b.getD 39 undef, b.getD 40 undef, b.getD 41 undef, b.getD 42 undef, b.getD 43 undef, b.getD 44 undef, b.getD 45 undef, b.getD 46 undef, b.getD 47 undef, b.getD 48 undef, b.getD 49 undef, b.getD 50 undef, b.getD 51 undef, b.getD 52 undef, b.getD 53 undef, b.getD 54 undef, b.getD 55 undef, b.getD 56 undef, b.getD 57 undef, b.getD 58 undef, b.getD 59 undef, b.getD 60 undef, b.getD 61 undef, b.getD 62 undef, b.getD 63 undef, b.getD 64 undef, b.getD 65 undef, b.getD 66 undef, b.getD 67 undef, b.getD 68 undef, b.getD 69 undef, b.getD 70 undef, b.getD 71 undef, b.getD 72 undef, b.getD 73 undef, b.getD 74 undef, b.getD 75 undef, b.getD 76 undef, b.getD 77 undef, b.getD 78 undef, b.getD 79 undef, b.getD 80 undef, b.getD 81 undef, b.getD 82 undef, b.getD 83 undef, b.getD 84 undef, b.getD 85 undef, b.getD 86 undef, b.getD 87 undef, b.getD 88 undef, b.getD 89 undef, b.getD 90 undef, b.getD 91 undef, b.getD 92 undef, b.getD 93 undef, b.getD 94 undef, b.getD 95 undef, b.getD 96 undef, b.getD 97 undef, b.getD 98 undef, b.getD 99 undef, b.getD 100 undef, b.getD 101 undef, b.getD 102 undef, b.getD 103 undef, b.getD 104 undef, b.getD 105 undef, b.getD 106 undef, b.getD 107 undef, b.getD 108 undef, b.getD 109 undef, b.getD 110 undef, b.getD 111 undef, b.getD 112 undef, b.getD 113 undef, b.getD 114 undef, b.getD 115 undef, b.getD 116 undef, b.getD 117 undef, b.getD 118 undef, b.getD 119 undef, b.getD 120 undef, b.getD 121 undef, b.getD 122 undef, b.getD 123 undef, b.getD 124 undef, b.getD 125 undef, b.getD 126 undef, b.getD 127 undef, b.getD 128 undef, b.getD 129 undef, b.getD 130 undef, b.getD 131 undef, b.getD 132 undef, b.getD 133 undef, b.getD 134 undef, b.getD 135 undef, b.getD 136 undef, b.getD 137 undef, b.getD 138 undef, b.getD 139 undef, b.getD 140 undef, b.getD 141 undef, b.getD 142 undef, b.getD 143 undef, b.getD 144 undef, b.getD 145 undef, b.getD 146 undef, b.getD 147 undef, b.getD 148 undef, b.getD 149 undef, b.getD 150 undef, b.getD 151 undef, b.getD 152 undef, b.getD 153 undef, b.getD 154 undef, b.getD 155 undef, b.getD 156 undef, b.getD 157 undef, b.getD 158 undef, b.getD 159 undef, b.getD 160 undef, b.getD 161 undef, b.getD 162 undef, b.getD 163 undef, b.getD 164 undef, b.getD 165 undef, b.getD 166 undef, b.getD 167 undef, b.getD 168 undef, b.getD 169 undef, b.getD 170 undef, b.getD 171 undef, b.getD 172 undef, b.getD 173 undef, b.getD 174 undef, b.getD 175 undef, b.getD 176 undef, b.getD 177 undef, b.getD 178 undef, b.getD 179 undef, b.getD 180 undef, b.getD 181 undef, b.getD 182 undef, b.getD 183 undef, b.getD 184 undef, b.getD 185 undef, b.getD 186 undef, b.getD 187 undef, b.getD 188 undef, b.getD 189 undef, b.getD 190 undef, b.getD 191 undef, b.getD 192 undef, b.getD 193 undef, b.getD 194 undef, b.getD 195 undef, b.getD 196 undef, b.getD 197 undef, b.getD 198 undef, b.getD 199 undef, b.getD 200 undef, b.getD 201 undef, b.getD 202 undef, b.getD 203 undef, b.getD 204 undef, b.getD 205 undef, b.getD 206 undef, b.getD 207 undef, b.getD 208 undef, b.getD 209 undef, b.getD 210 undef, b.getD 211 undef, b.getD 212 undef, b.getD 213 undef, b.getD 214 undef, b.getD 215 undef, b.getD 216 undef, b.getD 217 undef, b.getD 218 undef, b.getD 219 undef, b.getD 220 undef, b.getD 221 undef, b.getD 222 undef, b.getD 223 undef, b.getD 224 undef, b.getD 225 undef, b.getD 226 undef, b.getD 227 undef, b.getD 228 undef, b.getD 229 undef, b.getD 230 undef, b.getD 231 undef], []⟩
def Plays_F3 (b : Array Value) (u3 : Value) (u4 : Value) (u5 : Value) (u8 : Value) (u9 : Value) (u11 : Value) (u32 : Value) (u33 : Value) (u34 : Value) (u96 : Value) (u97 : Value) : Act := ⟨#[b.getD 0 undef, b.getD 1 undef, b.getD 2 undef, u3, u4, u5, b.getD 6 undef, b.getD 7 undef, u8, u9, b.getD 10 undef, u11, b.getD 12 undef, b.getD 13 undef, b.getD 14 undef, b.getD 15 undef, b.getD 16 undef, b.getD 17 undef, b.getD 18 undef, b.getD 19 undef, b.getD 20 undef, b.getD 21 undef, b.getD 22 undef, b.getD 23 undef, b.getD 24 undef, b.getD 25 undef, b.getD 26 undef, b.getD 27 undef, b.getD 28 undef, b.getD 29 undef, b.getD 30 undef, b.getD 31 undef, u32, u33, u34, b.getD 35 undef, b.getD 36 undef, b.getD 37 undef, b.getD 38 undef, b.getD 39 undef, b.getD 40 undef, b.getD 41 undef, b.getD 42 undef, b.getD 43 undef, b.getD 44 undef, b.getD 45 undef, b.getD 46 undef, b.getD 47 undef, b.getD 48 undef, b.getD 49 undef, b.getD 50 undef, b.getD 51 undef, b.getD 52 undef, b.getD 53 undef, b.getD 54 undef, b.getD 55 undef, b.getD 56 undef, b.getD 57 undef, b.getD 58 undef, b.getD 59 undef, b.getD 60 undef, b.getD 61 undef, b.getD 62 undef, b.getD 63 undef, b.getD 64 undef, b.getD 65 undef, b.getD 66 undef, b.getD 67 undef, b.getD 68 undef, b.getD 69 undef, b.getD 70 undef, b.getD 71 undef, b.getD 72 undef, b.getD 73 undef, b.getD 74 undef, b.getD 75 undef, b.getD 76 undef, b.getD 77 undef, b.getD 78 undef, b.getD 79 undef, b.getD 80 undef, b.getD 81 undef, b.getD 82 undef, b.getD 83 undef, b.getD 84 undef, b.getD 85 undef, b.getD 86 undef, b.getD 87 undef, b.getD 88 undef, b.getD 89 undef, b.getD 90 undef, b.getD 91 undef, b.getD 92 undef, b.getD 93 undef, b.getD 94 undef, b.getD 95 undef, u96, u97, b.getD 98 undef, b.getD 99 undef, b.getD 100 undef, b.getD 101 undef, b.getD 102 undef, b.getD 103 undef, b.getD 104 undef, b.getD 105 undef, b.getD 106 undef, b.getD 107 undef, b.getD 108 undef, b.getD 109 undef, b.getD 110 undef, b.getD 111 undef, b.getD 112 undef, b.getD 113 undef, b.getD 114 undef, b.getD 115 undef, b.getD 116 undef, b.getD 117 undef, b.getD 118 undef, b.getD 119 undef, b.getD 120 undef, b.getD 121 undef, b.getD 122 undef, b.getD 123 undef, b.getD 124 undef, b.getD 125 undef, b.getD 126 undef, b.getD 127 undef, b.getD 128 undef, b.getD 129 undef, b.getD 130 undef, b.getD 131 undef, b.getD 132 undef, b.getD 133 undef, b.getD 134 undef, b.getD 135 undef, b.getD 136 undef, b.getD 137 undef, b.getD 138 undef, b.getD 139 undef, b.getD 140 undef, b.getD 141 undef, b.getD 142 undef, b.getD 143 undef, b.getD 144 undef, b.getD 145 undef, b.getD 146 undef, b.getD 147 undef, b.getD 148 undef, b.getD 149 undef, b.getD 150 undef, b.getD 151 undef, b.getD 152 undef, b.getD 153 undef, b.getD 154 undef, b.getD 155 undef, b.getD 156 undef, b.getD 157 undef, b.getD 158 undef, b.getD 159 undef, b.getD 160 undef, b.getD 161 undef, b.getD 162 undef, b.getD 163 undef, b.getD 164 undef, b.getD 165 undef, b.getD 166 undef, b.getD 167 undef, b.getD 168 undef, b.getD 169 undef, b.getD 170 undef, b.getD 171 undef, b.getD 172 undef, b.getD 173 undef, b.getD 174 undef, b.getD 175 undef, b.getD 176 undef, b.getD 177 undef, b.getD 178 undef, b.getD 179 undef, b.getD 180 undef, b.getD 181 undef, b.getD 182 undef, b.getD 183 undef, b.getD 184 undef, b.getD 185 undef, b.getD 186 undef, b.getD 187 undef, b.getD 188 undef, b.getD 189 undef, b.getD 190 undef, b.getD 191 undef, b.getD 192 undef, b.getD 193 undef, b.getD 194 undef, b.getD 195 undef, b.getD 196 undef, b.getD 197 undef, b.getD 198 undef, b.getD 199 undef, b.getD 200 undef, b.getD 201 undef, b.getD 202 undef, b.getD 203 undef, b.getD 204 undef, b.getD 205 undef, b.getD 206 undef, b.getD 207 undef, b.getD 208 undef, b.getD 209 undef, b.getD 210 undef, b.getD 211 undef, b.getD 212 undef, b.getD 213 undef, b.getD 214 undef, b.getD 215 undef, b.getD 216 undef, b.getD 217 undef, b.getD 218 undef, b.getD 219 undef, b.getD 220 undef, b.getD 221 undef, b.getD 222 undef, b.getD 223 undef, b.getD 224 undef, b.getD 225 undef, b.getD 226 undef, b.getD 227 undef, b.getD 228 undef, b.getD 229 undef, b.getD 230 undef, b.getD 231 undef], []⟩
def Plays_F4 (b : Array Value) (u3 : Value) (u4 : Value) (u5 : Value) (u8 : Value) (u9 : Value) (u11 : Value) (u32 : Value) (u33 : Value) (u34 : Value) (u96 : Value) (u97 : Value) : Act := ⟨#[b.getD 0 undef, b.getD 1 undef, b.getD 2 undef, u3, u4, u5, b.getD 6 undef, b.getD 7 undef, u8, u9, b.getD 10 undef, u11, b.getD 12 undef, b.getD 13 undef, b.getD 14 undef, b.getD 15 undef, b.getD 16 undef, b.getD 17 undef, b.getD 18 undef, b.getD 19 undef, b.getD 20 undef, b.getD 21 undef, b.getD 22 undef, b.getD 23 undef, b.getD 24 undef, b.getD 25 undef, b.getD 26 undef, b.getD 27 undef, b.getD 28 undef, b.getD 29 undef, b.getD 30 undef, b.getD 31 undef, u32, u33, u34, b.getD 35 undef, b.getD 36 undef, b.getD 37 undef, b.getD 38 undef, b.getD 39 undef, b.getD 40 undef, b.getD 41 undef, b.getD 42 undef, b.getD 43 undef, b.getD 44 undef, b.getD 45 undef, b.getD 46 undef, b.getD 47 undef, b.getD 48 undef, b.getD 49 undef, b.getD 50 undef, b.getD 51 undef, b.getD 52 undef, b.getD 53 undef, b.getD 54 undef, b.getD 55 undef, b.getD 56 undef, b.getD 57 undef, b.getD 58 undef, b.getD 59 undef, b.getD 60 undef, b.getD 61 undef, b.getD 62 undef, b.getD 63 undef, b.getD 64 undef, b.getD 65 undef, b.getD 66 undef, b.getD 67 undef, b.getD 68 undef, b.getD 69 undef, b.getD 70 undef, b.getD 71 undef, b.getD 72 undef, b.getD 73 undef, b.getD 74 undef, b.getD 75 undef, b.getD 76 undef, b.getD 77 undef, b.getD 78 undef, b.getD 79 undef, b.getD 80 undef, b.getD 81 undef, b.getD 82 undef, b.getD 83 undef, b.getD 84 undef, b.getD 85 undef, b.getD 86 undef, b.getD 87 undef, b.getD 88 undef, b.getD 89 undef, b.getD 90 undef, b.getD 91 undef, b.getD 92 undef, b.getD 93 undef, b.getD 94 undef, b.getD 95 undef, u96, u97, b.getD 98 undef, b.getD 99 undef, b.getD 100 undef, b.getD 101 undef, b.getD 102 undef, b.getD 103 undef, b.getD 104 undef, b.getD 105 undef, b.getD 106 undef, b.getD 107 undef, b.getD 108 undef, b.getD 109 undef, b.getD 110 undef, b.getD 111 undef, b.getD 112 undef, b.getD 113 undef, b.getD 114 undef, b.getD 115 undef, b.getD 116 undef, b.getD 117 undef, b.getD 118 undef, b.getD 119 undef, b.getD 120 undef, b.getD 121 undef, b.getD 122 undef, b.getD 123 undef, b.getD 124 undef, b.getD 125 undef, b.getD 126 undef, b.getD 127 undef, b.getD 128 undef, b.getD 129 undef, b.getD 130 undef, b.getD 131 undef, b.getD 132 undef, b.getD 133 undef, b.getD 134 undef, b.getD 135 undef, b.getD 136 undef, b.getD 137 undef, b.getD 138 undef, b.getD 139 undef, b.getD 140 undef, b.getD 141 undef, b.getD 142 undef, b.getD 143 undef, b.getD 144 undef, b.getD 145 undef, b.getD 146 undef, b.getD 147 undef, b.getD 148 undef, b.getD 149 undef, b.getD 150 undef, b.getD 151 undef, b.getD 152 undef, b.getD 153 undef, b.getD 154 undef, b.getD 155 undef, b.getD 156 undef, b.getD 157 undef, b.getD 158 undef, b.getD 159 undef, b.getD 160 undef, b.getD 161 undef, b.getD 162 undef, b.getD 163 undef, b.getD 164 undef, b.getD 165 undef, b.getD 166 undef, b.getD 167 undef, b.getD 168 undef, b.getD 169 undef, b.getD 170 undef, b.getD 171 undef, b.getD 172 undef, b.getD 173 undef, b.getD 174 undef, b.getD 175 undef, b.getD 176 undef, b.getD 177 undef, b.getD 178 undef, b.getD 179 undef, b.getD 180 undef, b.getD 181 undef, b.getD 182 undef, b.getD 183 undef, b.getD 184 undef, b.getD 185 undef, b.getD 186 undef, b.getD 187 undef, b.getD 188 undef, b.getD 189 undef, b.getD 190 undef, b.getD 191 undef, b.getD 192 undef, b.getD 193 undef, b.getD 194 undef, b.getD 195 undef, b.getD 196 undef, b.getD 197 undef, b.getD 198 undef, b.getD 199 undef, b.getD 200 undef, b.getD 201 undef, b.getD 202 undef, b.getD 203 undef, b.getD 204 undef, b.getD 205 undef, b.getD 206 undef, b.getD 207 undef, b.getD 208 undef, b.getD 209 undef, b.getD 210 undef, b.getD 211 undef, b.getD 212 undef, b.getD 213 undef, b.getD 214 undef, b.getD 215 undef, b.getD 216 undef, b.getD 217 undef, b.getD 218 undef, b.getD 219 undef, b.getD 220 undef, b.getD 221 undef, b.getD 222 undef, b.getD 223 undef, b.getD 224 undef, b.getD 225 undef, b.getD 226 undef, b.getD 227 undef, b.getD 228 undef, b.getD 229 undef, b.getD 230 undef, b.getD 231 undef], []⟩
def Plays_F6 (b : Array Value) (u3 : Value) (u4 : Value) (u5 : Value) (u14 : Value) (u15 : Value) (u32 : Value) (u33 : Value) (u34 : Value) (u219 : Value) (u220 : Value) : Act := ⟨#[b.getD 0 undef, b.getD 1 undef, b.getD 2 undef, u3, u4, u5, b.getD 6 undef, b.getD 7 undef, b.getD 8 undef, b.getD 9 undef, b.getD 10 undef, b.getD 11 undef, b.getD 12 undef, b.getD 13 undef, u14, u15, b.getD 16 undef, b.getD 17 undef, b.getD 18 undef, b.getD 19 undef, b.getD 20 undef, b.getD 21 undef, b.getD 22 undef, b.getD 23 undef, b.getD 24 undef, b.getD 25 undef, b.getD 26 undef, b.getD 27 undef, b.getD 28 undef, b.getD 29 undef, b.getD 30 undef, b.getD 31 undef, u32, u33, u34, b.getD 35 undef, b.getD 36 undef, b.getD 37 undef, b.getD 38 undef, b.getD 39 undef, b.getD 40 undef, b.getD 41 undef, b.getD 42 undef, b.getD 43 undef, b.getD 44 undef, b.getD 45 undef, b.getD 46 undef, b.getD 47 undef, b.getD 48 undef, b.getD 49 undef, b.getD 50 undef, b.getD 51 undef, b.getD 52 undef, b.getD 53 undef, b.getD 54 undef, b.getD 55 undef, b.getD 56 undef, b.getD 57 undef, b.getD 58 undef, b.getD 59 undef, b.getD 60 undef, b.getD 61 undef, b.getD 62 undef, b.getD 63 undef, b.getD 64 undef, b.getD 65 undef, b.getD 66 undef, b.getD 67 undef, b.getD 68 undef, b.getD 69 undef, b.getD 70 undef, b.getD 71 undef, b.getD 72 undef, b.getD 73 undef, b.getD 74 undef, b.getD 75 undef, b.getD 76 undef, b.getD 77 undef, b.getD 78 undef, b.getD 79 undef, b.getD 80 undef, b.getD 81 undef, b.getD 82 undef, b.getD 83 undef, b.getD 84 undef, b.getD 85 undef, b.getD 86 undef, b.getD 87 undef, b.getD 88 undef, b.getD 89 undef, b.getD 90 undef, b.getD 91 undef, b.getD 92 undef, b.getD 93 undef, b.getD 94 undef, b.getD 95 undef, b.getD 96 undef, b.getD 97 undef, b.getD 98 undef, b.getD 99 undef, b.getD 100 undef, b.getD 101 undef, b.getD 102 undef, b.getD 103 undef, b.getD 104 undef, b.getD 105 undef, b.getD 106 undef, b.getD 107 undef, b.getD 108 undef, b.getD 109 undef, b.getD 110 undef, b.getD 111 undef, b.getD 112 undef, b.getD 113 undef, b.getD 114 undef, b.getD 115 undef, b.getD 116 undef, b.getD 117 undef, b.getD 118 undef, b.getD 119 undef, b.getD 120 undef, b.getD 121 undef, b.getD 122 undef, b.getD 123 undef, b.getD 124 undef, b.getD 125 undef, b.getD 126 undef, b.getD 127 undef, b.getD 128 undef, b.getD 129 undef, b.getD 130 undef, b.getD 131 undef, b.getD 132 undef, b.getD 133 undef, b.getD 134 undef, b.getD 135 undef, b.getD 136 undef, b.getD 137 undef, b.getD 138 undef, b.getD 139 undef, b.getD 140 undef, b.getD 141 undef, b.getD 142 undef, b.getD 143 undef, b.getD 144 undef, b.getD 145 undef, b.getD 146 undef, b.getD 147 undef, b.getD 148 undef, b.getD 149 undef, b.getD 150 undef, b.getD 151 undef, b.getD 152 undef, b.getD 153 undef, b.getD 154 undef, b.getD 155 undef, b.getD 156 undef, b.getD 157 undef, b.getD 158 undef, b.getD 159 undef, b.getD 160 undef, b.getD 161 undef, b.getD 162 undef, b.getD 163 undef, b.getD 164 undef, b.getD 165 undef, b.getD 166 undef, b.getD 167 undef, b.getD 168 undef, b.getD 169 undef, b.getD 170 undef, b.getD 171 undef, b.getD 172 undef, b.getD 173 undef, b.getD 174 undef, b.getD 175 undef, b.getD 176 undef, b.getD 177 undef, b.getD 178 undef, b.getD 179 undef, b.getD 180 undef, b.getD 181 undef, b.getD 182 undef, b.getD 183 undef, b.getD 184 undef, b.getD 185 undef, b.getD 186 undef, b.getD 187 undef, b.getD 188 undef, b.getD 189 undef, b.getD 190 undef, b.getD 191 undef, b.getD 192 undef, b.getD 193 undef, b.getD 194 undef, b.getD 195 undef, b.getD 196 undef, b.getD 197 undef, b.getD 198 undef, b.getD 199 undef, b.getD 200 undef, b.getD 201 undef, b.getD 202 undef, b.getD 203 undef, b.getD 204 undef, b.getD 205 undef, b.getD 206 undef, b.getD 207 undef, b.getD 208 undef, b.getD 209 undef, b.getD 210 undef, b.getD 211 undef, b.getD 212 undef, b.getD 213 undef, b.getD 214 undef, b.getD 215 undef, b.getD 216 undef, b.getD 217 undef, b.getD 218 undef, u219, u220, b.getD 221 undef, b.getD 222 undef, b.getD 223 undef, b.getD 224 undef, b.getD 225 undef, b.getD 226 undef, b.getD 227 undef, b.getD 228 undef, b.getD 229 undef, b.getD 230 undef, b.getD 231 undef], []⟩
def Plays_F7 (b : Array Value) (u3 : Value) (u4 : Value) (u5 : Value) (u14 : Value) (u15 : Value) (u32 : Value) (u33 : Value) (u34 : Value) (u219 : Value) (u220 : Value) : Act := ⟨#[b.getD 0 undef, b.getD 1 undef, b.getD 2 undef, u3, u4, u5, b.getD 6 undef, b.getD 7 undef, b.getD 8 undef, b.getD 9 undef, b.getD 10 undef, b.getD 11 undef, b.getD 12 undef, b.getD 13 undef, u14, u15, b.getD 16 undef, b.getD 17 undef, b.getD 18 undef, b.getD 19 undef, b.getD 20 undef, b.getD 21 undef, b.getD 22 undef, b.getD 23 undef, b.getD 24 undef, b.getD 25 undef, b.getD 26 undef, b.getD 27 undef, b.getD 28 undef, b.getD 29 undef, b.getD 30 undef, b.getD 31 undef, u32, u33, u34, b.getD 35 undef, b.getD 36 undef, b.getD 37 undef, b.getD 38 undef, b.getD 39 undef, b.getD 40 undef, b.getD 41 undef, b.getD 42 undef, b.getD 43 undef, b.getD 44 undef, b.getD 45 undef, b.getD 46 undef, b.getD 47 undef, b.getD 48 undef, b.getD 49 undef, b.getD 50 undef, b.getD 51 undef, b.getD 52 undef, b.getD 53 undef, b.getD 54 undef, b.getD 55 undef, b.getD 56 undef, b.getD 57 undef, b.getD 58 undef, b.getD 59 undef, b.getD 60 undef, b.getD 61 undef, b.getD 62 undef, b.getD 63 undef, b.getD 64 undef, b.getD 65 undef, b.getD 66 undef, b.getD 67 undef, b.getD 68 undef, b.getD 69 undef, b.getD 70 undef, b.getD 71 undef, b.getD 72 undef, b.getD 73 undef, b.getD 74 undef, b.getD 75 undef, b.getD 76 undef, b.getD 77 undef, b.getD 78 undef, b.getD 79 undef, b.getD 80 undef, b.getD 81 undef, b.getD 82 undef, b.getD 83 undef, b.getD 84 undef, b.getD 85 undef, b.getD 86 undef, b.getD 87 undef, b.getD 88 undef, b.getD 89 undef, b.getD 90 undef, b.getD 91 undef, b.getD 92 undef, b.getD 93 undef, b.getD 94 undef, b.getD 95 undef, b.getD 96 undef, b.getD 97 undef, b.getD 98 undef, b.getD 99 undef, b.getD 100 undef, b.getD 101 undef, b.getD 102 undef, b.getD 103 undef, b.getD 104 undef, b.getD 105 undef, b.getD 106 undef, b.getD 107 undef, b.getD 108 undef, b.getD 109 undef, b.getD 110 undef, b.getD 111 undef, b.getD 112 undef, b.getD 113 undef, b.getD 114 undef, b.getD 115 undef, b.getD 116 undef, b.getD 117 undef, b.getD 118 undef, b.getD 119 undef, b.getD 120 undef, b.getD 121 undef, b.getD 122 undef, b.getD 123 undef, b.getD 124 undef, b.getD 125 undef, b.getD 126 undef, b.getD 127 undef, b.getD 128 undef, b.getD 129 undef, b.getD 130 undef, b.getD 131 undef, b.getD 132 undef, b.getD 133 undef, b.getD 134 undef, b.getD 135 undef, b.getD 136 undef, b.getD 137 undef, b.getD 138 undef, b.getD 139 undef, b.getD 140 undef, b.getD 141 undef, b.getD 142 undef, b.getD 143 undef, b.getD 144 undef, b.getD 145 undef, b.getD 146 undef, b.getD 147 undef, b.getD 148 undef, b.getD 149 undef, b.getD 150 undef, b.getD 151 undef, b.getD 152 undef, b.getD 153 undef, b.getD 154 undef, b.getD 155 undef, b.getD 156 undef, b.getD 157 undef, b.getD 158 undef, b.getD 159 undef, b.getD 160 undef, b.getD 161 undef, b.getD 162 undef, b.getD 163 undef, b.getD 164 undef, b.getD 165 undef, b.getD 166 undef, b.getD 167 undef, b.getD 168 undef, b.getD 169 undef, b.getD 170 undef, b.getD 171 undef, b.getD 172 undef, b.getD 173 undef, b.getD 174 undef, b.getD 175 undef, b.getD 176 undef, b.getD 177 undef, b.getD 178 undef, b.getD 179 undef, b.getD 180 undef, b.getD 181 undef, b.getD 182 undef, b.getD 183 undef, b.getD 184 undef, b.getD 185 undef, b.getD 186 undef, b.getD 187 undef, b.getD 188 undef, b.getD 189 undef, b.getD 190 undef, b.getD 191 undef, b.getD 192 undef, b.getD 193 undef, b.getD 194 undef, b.getD 195 undef, b.getD 196 undef, b.getD 197 undef, b.getD 198 undef, b.getD 199 undef, b.getD 200 undef, b.getD 201 undef, b.getD 202 undef, b.getD 203 undef, b.getD 204 undef, b.getD 205 undef, b.getD 206 undef, b.getD 207 undef, b.getD 208 undef, b.getD 209 undef, b.getD 210 undef, b.getD 211 undef, b.getD 212 undef, b.getD 213 undef, b.getD 214 undef, b.getD 215 undef, b.getD 216 undef, b.getD 217 undef, b.getD 218 undef, u219, u220, b.getD 221 undef, b.getD 222 undef, b.getD 223 undef, b.getD 224 undef, b.getD 225 undef, b.getD 226 undef, b.getD 227 undef, b.getD 228 undef, b.getD 229 undef, b.getD 230 undef, b.getD 231 undef], []⟩
theorem plays_any (A : Option Addr) (n c : Nat) (L : List Mur.Dop) (w : World) (hl : Mur.Dops w A n L) (hbig : ∀ x ∈ L, x.c ≤ 140737488351232) (hnc : n ≤ c ∧ n ≤ 9223372036854775807) : Calls Try.prog 6 #[.slice A n c] w fun e w' => e = .returned (.bool true) ∧ Below w.heap.size w w' := by
  have HL := Go.Lib.hid hl
  clear hl
  have hn := hnc.2
  refine calls_of_wp Try.func6 rfl ?_
  refine wp_seq ?_
  refine Wk.reg ?_
  refine Wk.rPure 0 (some 2) (.bool false) rfl rfl (by kernel_rfl) (by kernel_rfl) ?_
  refine Wk.rEnd 1 rfl ?_
  refine Wk.nxt ?_
  refine wp_seq ?_
  refine Wk.reg ?_
  refine Wk.rCall 0 (some 17) 8 [] #[] [] rfl rfl (by kernel_rfl) rfl (by kernel_rfl) (by kernel_rfl) ?_
  refine (New_any w).mono ?_
  rintro _ W1 ⟨FF1, rfl, hD1, ch1⟩
  have hM1 := Mur.DskF.mem hD1
  have zz1 : w.heap.size < W1.heap.size := Mur.DskF.lt hD1
  have zz2 := ch1.size
  refine ⟨_, rfl, ?_⟩
  refine Wk.rPure 1 (some 18) (.agg #[.slice none 0 0, .slice none 0 0, .int .i64 0, .int .i64 0]) rfl rfl (by kernel_rfl) (by kernel_rfl) ?_
  refine Wk.rEx 2 (some 19) _ rfl rfl (by kernel_rfl) (Wk.new_ex (.pointer (some ⟨W1.heap.size, 0, none⟩)) #[.slice none 0 0, .slice none 0 0, .int .i64 0, .int .i64 0] 45 (by kernel_rfl)) ?_
  rintro _ W2 ⟨rfl, hb1, ch2, sz1⟩
  have zz3 := ch2.size
  refine Wk.rPure 3 (some 3) (.pointer (some ⟨w.heap.size, 0, none⟩)) rfl rfl (by kernel_rfl) (by kernel_rfl) ?_
  refine Wk.rPure 4 (some 4) (.pointer (some ⟨W1.heap.size, 0, none⟩)) rfl rfl (by kernel_rfl) (by kernel_rfl) ?_
  refine Wk.rEnd 5 rfl ?_
  refine Wk.nxt ?_
  refine wp_seq ?_
  refine wp_seq ?_
  refine Wk.reg ?_
  refine Wk.rPure 0 (some 20) (.pointer (some ⟨w.heap.size, 0, none⟩)) rfl rfl (by kernel_rfl) (by kernel_rfl) ?_
  refine Wk.rPure 1 (some 21) (.bool false) rfl rfl (by kernel_rfl) (by kernel_rfl) ?_
  refine Wk.rPure 2 (some 22) (.bool false) rfl rfl (by kernel_rfl) (by kernel_rfl) ?_
  refine Wk.rPure 3 (some 23) (.slice A n c) rfl rfl (by kernel_rfl) (by kernel_rfl) ?_
  refine Wk.rPure 4 (some 24) (.int .i64 ((n : Nat) : Int)) rfl rfl (by kernel_rfl) (by kernel_rfl) ?_
  by_cases hx1 : ((n : Nat) : Int) > (100 : Int)
  · refine Wk.rPure 5 (some 25) (.bool true) rfl rfl (by kernel_rfl) (Wk.boolT (b := decide (((n : Nat) : Int) > (100 : Int))) (decide_eq_true (by first | exact hx1 | omega)) (by kernel_rfl)) ?_
    refine Wk.rPure 6 (some 26) (.bool true) rfl rfl (by kernel_rfl) (by kernel_rfl) ?_
    refine Wk.rEnd 7 rfl ?_
    refine Wk.nxt ?_
    refine wp_cond_true (by kernel_rfl) ?_
    refine wp_seq ?_
    refine Wk.reg ?_
    refine Wk.rPure 0 (some 27) (.pointer (some ⟨w.heap.size, 0, none⟩)) rfl rfl (by kernel_rfl) (by kernel_rfl) ?_
    refine Wk.rPure 1 (some 28) (.bool true) rfl rfl (by kernel_rfl) (by kernel_rfl) ?_
    refine Wk.rPure 2 (some 29) (.bool true) rfl rfl (by kernel_rfl) (by kernel_rfl) ?_
    refine Wk.rCall 3 (some 30) 9 [] #[] [] rfl rfl (by kernel_rfl) rfl (by kernel_rfl) (by kernel_rfl) ?_
    refine (known_any W2).mono ?_
    rintro _ W3 ⟨rfl, hB1⟩
    have ch3 := Wk.Chg.ofBelow hB1
    have zz4 := ch3.size
    refine ⟨_, rfl, ?_⟩
    refine Wk.rPure 4 (some 31) (.bool true) rfl rfl (by kernel_rfl) (by kernel_rfl) ?_
    refine Wk.rPure 5 (some 2) (.bool true) rfl rfl (by kernel_rfl) (by kernel_rfl) ?_
    refine Wk.rEnd 6 rfl ?_
    refine Wk.nxt ?_
    refine wp_ret ?_
    refine Wk.thR ?_
    have kk1 : Wk.Chg [] w W1 := Wk.Chg.step ((Wk.Chg.refl _).more (by simp)) ch1 trivial
    have kk2 := Wk.Chg.step kk1 ch2 trivial
    have kk3 := Wk.Chg.step kk2 ch3 trivial
    refine Wk.ret (.bool true) rfl (by kernel_rfl) ?_
    exact ⟨rfl, Wk.Chg.below0 kk3⟩
  · refine Wk.rPure 5 (some 25) (.bool false) rfl rfl (by kernel_rfl) (Wk.boolF (b := decide (((n : Nat) : Int) > (100 : Int))) (decide_eq_false (by first | exact hx1 | omega)) (by kernel_rfl)) ?_
    refine Wk.rPure 6 (some 26) (.bool false) rfl rfl (by kernel_rfl) (by kernel_rfl) ?_
    refine Wk.rEnd 7 rfl ?_
    refine Wk.nxt ?_
    refine wp_cond_false (by kernel_rfl) ?_
    refine wp_skip ?_
    refine Wk.nxt ?_
    refine wp_seq ?_
    refine Wk.reg ?_
    refine Wk.rPure 0 (some 5) (.int .i64 0) rfl rfl (by kernel_rfl) (by kernel_rfl) ?_
    refine Wk.rEnd 1 rfl ?_
    refine Wk.nxt ?_
    refine wp_seq ?_
    refine wp_seq ?_
    refine Wk.reg ?_
    refine Wk.rPure 0 (some 32) (.slice A n c) rfl rfl (by kernel_rfl) (by kernel_rfl) ?_
    refine Wk.rPure 1 (some 33) (.int .i64 ((n : Nat) : Int)) rfl rfl (by kernel_rfl) (by kernel_rfl) ?_
    refine Wk.rPure 2 (some 34) (.int .i64 0) rfl rfl (by kernel_rfl) (by kernel_rfl) ?_
    refine Wk.rEnd 3 rfl ?_
    refine Wk.nxt ?_
    refine wp_block ?_
    refine Wk.loop (fun m_ a wr => ∃ (k : Nat) (gd : Nat) (F : List Nat) (d : Dk) (A0 : Option Addr) (n0 : Nat) (c0 : Nat) (A1 : Option Addr) (n1 : Nat) (c1 : Nat) (gt : Int), m_ = n - k ∧ a = Plays_F1 a.tmps (.pointer (some ⟨gd, 0, none⟩)) (.pointer (some ⟨W1.heap.size, 0, none⟩)) (.int .i64 gt) (.slice A n c) (.int .i64 ((n : Nat) : Int)) (.int .i64 ((k : Nat) : Int)) ∧ k ≤ n ∧ DskF 5 51 wr gd d F ∧ Mur.Ref 5 45 wr W1.heap.size d A0 n0 c0 A1 n1 c1 ∧ Mur.Dj F (W1.heap.size :: (Mur.ablk A0 ++ Mur.ablk A1)) ∧ (0 ≤ gt ∧ gt ≤ 2) ∧ Wk.Chg [] w wr ∧ w.heap.size ≤ gd) (n - 0) ?_ ?_
    · have hD2 := Mur.DskF.chg hD1 ch2 (fun s hs hl => trivial)
      obtain ⟨_, _, _, _, _, _, hRz, hGz⟩ := (Mur.ref_zero (e := 5) hb1).out
      have hRz : Mur.Ref 5 45 W2 W1.heap.size Mur.Dk.new none 0 0 none 0 0 := ⟨hb1, Mur.Byt.nil _ _, Mur.Byt.nil _ _, Nat.le_refl _, Nat.le_refl _, fun _ => rfl, fun _ => rfl, fun q off eq => (by cases eq), fun q off eq => (by cases eq), fun a ha => (by cases ha), fun a ha => (by cases ha)⟩
      have kk4 : Wk.Chg [] w W1 := Wk.Chg.step ((Wk.Chg.refl _).more (by simp)) ch1 trivial
      have kk5 := Wk.Chg.step kk4 ch2 trivial
      refine ⟨0, w.heap.size, FF1, Mur.Dk.new, none, 0, 0, none, 0, 0, 0, rfl, by kernel_rfl, Nat.zero_le _, hD2, hRz, (fun s h1 h2 => by have := hM1 s h1; have := Mur.Ref.mem hRz s h2; simp [Mur.ablk] at h2; omega), (by omega), kk5, (by omega)⟩
    · rintro mm1 aa1 W4 ⟨k, gd, F, d, A0, n0, c0, A1, n1, c1, gt, hmm1, hF1, hk, hD, hR, hJ, hgt, HB, hgw⟩
      generalize aa1.tmps = bb1 at hF1
      subst hF1
      have hHBz := HB.size
      have hM := Mur.DskF.mem hD
      have hMR := Mur.Ref.mem hR
      have hgl := Mur.DskF.lt hD
      have hgr := hMR _ Mur.Ref.self
      have hkd := Mur.DskF.ok hD
      by_cases hlt : k < n
      · obtain ⟨g, off, kd, f, B, mb, cb, bs, k0, k1, rfl, hg, q, hb, hbc, hbm, hbn, hbw⟩ := HL.out.atW hbig hlt
        refine wp_seq ?_
        refine Wk.reg ?_
        refine Wk.rPure 0 (some 35) (.bool true) rfl rfl (by kernel_rfl) (Wk.boolT (b := decide (((k : Nat) : Int) < ((n : Nat) : Int))) (decide_eq_true (by omega)) (by kernel_rfl)) ?_
        refine Wk.rEnd 1 rfl ?_
        refine Wk.nxt ?_
        refine wp_seq ?_
        refine wp_cond_true (by kernel_rfl) ?_
        refine wp_skip ?_
        refine Wk.nxt ?_
        refine wp_seq ?_
        refine wp_block ?_
        refine wp_seq ?_
        refine Wk.reg ?_
        refine Wk.rPure 0 (some 36) (.pointer (some ⟨g, off + k * 5, none⟩)) rfl rfl (by kernel_rfl) (Wk.index_sl 22 29 (.tmp 32) (.tmp 34) rfl Try.underlying22 5 (by kernel_rfl) g off n c k .i64 (by kernel_rfl) (by kernel_rfl) (by omega)) ?_
        refine Wk.rPure 1 (some 37) (.agg #[.int .i64 kd, .int .i64 f, .slice B mb cb, .int .i64 k0, .int .i64 k1]) rfl rfl (by kernel_rfl) (Wk.loadR 29 (.tmp 36) rfl _ Try.underlying29 rfl g (off + k * 5) (by kernel_rfl) ([.int .i64 kd, .int .i64 f, .slice B mb cb, .int .i64 k0, .int .i64 k1]) (by kernel_rfl) (Wk.Chg.range HB q trivial)) ?_
        refine Wk.rEx 2 (some 7) _ rfl rfl (by kernel_rfl) (Wk.new_ex (.pointer (some ⟨W4.heap.size, 0, none⟩)) #[.int .i64 0, .int .i64 0, .slice none 0 0, .int .i64 0, .int .i64 0] 29 (by kernel_rfl)) ?_
        rintro _ W5 ⟨rfl, hb2, ch4, sz2⟩
        have zz5 := ch4.size
        refine Wk.rExS 3 none _ rfl rfl (by kernel_rfl) (Wk.storeR 29 (.tmp 7) (.tmp 37) rfl W4.heap.size 0 (by kernel_rfl) ([.int .i64 kd, .int .i64 f, .slice B mb cb, .int .i64 k0, .int .i64 k1]) (by kernel_rfl) (by kernel_rfl) (by intro v hv; simp at hv; rcases hv with h | h | h | h | h <;> (subst h; rfl)) 29 ([.int .i64 0, .int .i64 0, .slice none 0 0, .int .i64 0, .int .i64 0]) hb2 (by simp)) ?_
        rintro W6 ⟨hb3, ch5⟩
        replace hb3 : W6.heap[W4.heap.size]? = some (.cells #[.int .i64 kd, .int .i64 f, .slice B mb cb, .int .i64 k0, .int .i64 k1] 29 (0, 0)) := hb3
        have zz6 := ch5.size
        refine Wk.rEnd 4 rfl ?_
        refine Wk.nxt ?_
        refine wp_seq ?_
        refine Wk.reg ?_
        refine Wk.rPure 0 (some 8) (.int .i64 0) rfl rfl (by kernel_rfl) (by kernel_rfl) ?_
        refine Wk.rPure 1 (some 9) (.int .i64 0) rfl rfl (by kernel_rfl) (by kernel_rfl) ?_
        refine Wk.rEnd 2 rfl ?_
        refine Wk.nxt ?_
        refine wp_seq ?_
        refine Wk.cut (fun a wj => ∃ (e9 : Int), a = Plays_J9_1 a.tmps (.pointer (some ⟨gd, 0, none⟩)) (.pointer (some ⟨W1.heap.size, 0, none⟩)) (.int .i64 gt) (.pointer (some ⟨W4.heap.size, 0, none⟩)) (.int .i64 0) (.int .i64 e9) (.slice (some ⟨g, off, none⟩) n c) (.int .i64 ((n : Nat) : Int)) (.int .i64 ((k : Nat) : Int)) ∧ W6 = wj ∧ e9 = Mur.fE f) ?_ ?_
        · refine wp_seq ?_
          refine Wk.reg ?_
          refine Wk.rPure 0 (some 38) (.pointer (some ⟨W4.heap.size, 1, none⟩)) rfl rfl (by kernel_rfl) (by kernel_rfl) ?_
          refine Wk.rPure 1 (some 39) (.int .i64 f) rfl rfl (by kernel_rfl) (Wk.load1 3 (.tmp 38) rfl (by kernel_rfl) ⟨W4.heap.size, 1, none⟩ (by kernel_rfl) (.int .i64 f) ((cell_of_row _ _ 1 _ _ _ hb3).trans rfl)) ?_
          refine Wk.rCall 2 (some 40) 16 [.tmp 39] #[3] [.int .i64 f] rfl rfl (by kernel_rfl) rfl (by kernel_rfl) (by kernel_rfl) ?_
          by_cases hfs1 : hasF f
          · have hfs1u : (f = 0 ∨ f = 1) := hfs1
            refine (Has_any f W6).mono ?_
            rw [decide_eq_true (hfs1 : hasF f)]
            rintro _ _ ⟨rfl, rfl⟩
            refine ⟨_, rfl, ?_⟩
            refine Wk.rPure 3 (some 41) (.bool false) rfl rfl (by kernel_rfl) (by kernel_rfl) ?_
            refine Wk.rEnd 4 rfl ?_
            refine Wk.nxt ?_
            refine wp_cond_false (by kernel_rfl) ?_
            refine wp_skip ?_
            refine Wk.nxt ?_
            exact ⟨0, by kernel_rfl, rfl, (if_pos hfs1).symm⟩
          · have hfs1u : ¬ (f = 0 ∨ f = 1) := hfs1
            refine (Has_any f W6).mono ?_
            rw [decide_eq_false (hfs1 : ¬ hasF f)]
            rintro _ _ ⟨rfl, rfl⟩
            refine ⟨_, rfl, ?_⟩
            refine Wk.rPure 3 (some 41) (.bool true) rfl rfl (by kernel_rfl) (by kernel_rfl) ?_
            refine Wk.rEnd 4 rfl ?_
            refine Wk.nxt ?_
            refine wp_cond_true (by kernel_rfl) ?_
            refine Wk.reg ?_
            refine Wk.rPure 0 (some 9) (.int .i64 2) rfl rfl (by kernel_rfl) (by kernel_rfl) ?_
            refine Wk.rEnd 1 rfl ?_
            refine Wk.nxt ?_
            exact ⟨2, by kernel_rfl, rfl, (if_neg hfs1).symm⟩
        · rintro aa2 _ ⟨e9, hF2, rfl, he9⟩
          generalize aa2.tmps = bb2 at hF2
          subst hF2
          refine Wk.nxt ?_
          refine wp_seq ?_
          refine Wk.cut (fun a wj => ∃ (gd2 : Nat) (F2 : List Nat) (d2 : Dk) (A02 : Option Addr) (n02 : Nat) (c02 : Nat) (A12 : Option Addr) (n12 : Nat) (c12 : Nat) (gt2 : Int) (ev2 : Int), a = Plays_J11_2 a.tmps (.pointer (some ⟨gd2, 0, none⟩)) (.pointer (some ⟨W1.heap.size, 0, none⟩)) (.int .i64 gt2) (.int .i64 ev2) (.int .i64 ev2) (.slice (some ⟨g, off, none⟩) n c) (.int .i64 ((n : Nat) : Int)) (.int .i64 ((k : Nat) : Int)) ∧ DskF 5 51 wj gd2 d2 F2 ∧ Mur.Ref 5 45 wj W1.heap.size d2 A02 n02 c02 A12 n12 c12 ∧ Mur.Dj F2 (W1.heap.size :: (Mur.ablk A02 ++ Mur.ablk A12)) ∧ (0 ≤ gt2 ∧ gt2 ≤ 2) ∧ Wk.Chg [] w wj ∧ w.heap.size ≤ gd2) ?_ ?_
          · refine wp_seq ?_
            refine Wk.reg ?_
            refine Wk.rPure 0 (some 42) (.pointer (some ⟨W4.heap.size, 0, none⟩)) rfl rfl (by kernel_rfl) (by kernel_rfl) ?_
            refine Wk.rPure 1 (some 43) (.int .i64 kd) rfl rfl (by kernel_rfl) (Wk.load1 3 (.tmp 42) rfl (by kernel_rfl) ⟨W4.heap.size, 0, none⟩ (by kernel_rfl) (.int .i64 kd) ((cell_of_row _ _ 0 _ _ _ hb3).trans rfl)) ?_
            refine Wk.rEnd 2 rfl ?_
            refine Wk.nxt ?_
            refine wp_block ?_
            refine wp_seq ?_
            refine wp_seq ?_
            refine Wk.reg ?_
            by_cases hx2 : kd = (1 : Int)
            · refine Wk.rPure 0 (some 45) (.bool true) rfl rfl (by kernel_rfl) (Wk.boolT (b := (kd == (1 : Int))) (beq_iff_eq.2 (by first | exact hx2 | omega)) (by kernel_rfl)) ?_
              refine Wk.rPure 1 (some 44) (.bool true) rfl rfl (by kernel_rfl) (by kernel_rfl) ?_
              refine Wk.rEnd 2 rfl ?_
              refine Wk.nxt ?_
              refine wp_cond_true (by kernel_rfl) ?_
              refine wp_skip ?_
              refine Wk.nxt ?_
              refine wp_cond_true (by kernel_rfl) ?_
              refine wp_seq ?_
              refine Wk.reg ?_
              refine Wk.rPure 0 (some 47) (.pointer (some ⟨W4.heap.size, 2, none⟩)) rfl rfl (by kernel_rfl) (by kernel_rfl) ?_
              refine Wk.rPure 1 (some 48) (.slice B mb cb) rfl rfl (by kernel_rfl) (Wk.load1 26 (.tmp 47) rfl (by kernel_rfl) ⟨W4.heap.size, 2, none⟩ (by kernel_rfl) (.slice B mb cb) ((cell_of_row _ _ 2 _ _ _ hb3).trans rfl)) ?_
              refine Wk.rPure 2 (some 10) (.slice B mb cb) rfl rfl (by kernel_rfl) (by kernel_rfl) ?_
              refine Wk.rEnd 3 rfl ?_
              refine Wk.nxt ?_
              refine wp_seq ?_
              refine Wk.cut (fun a wj => ∃ (AI : Option Addr) (nI : Nat) (cI : Nat) (lI : List UInt8) (gtI : Int), a = Plays_J16_3 a.tmps (.pointer (some ⟨gd, 0, none⟩)) (.pointer (some ⟨W1.heap.size, 0, none⟩)) (.int .i64 gtI) (.pointer (some ⟨W4.heap.size, 0, none⟩)) (.slice AI nI cI) (.slice (some ⟨g, off, none⟩) n c) (.int .i64 ((n : Nat) : Int)) (.int .i64 ((k : Nat) : Int)) ∧ Wk.Chg [] W6 wj ∧ Byt wj AI nI lI ∧ nI ≤ cI ∧ (AI = none → cI = 0) ∧ nI ≤ 140737488351232 ∧ (0 ≤ gtI ∧ gtI ≤ 2) ∧ (∀ q off, AI = some ⟨q, off, none⟩ → 0 < nI → (q < w.heap.size ∨ W4.heap.size ≤ q) ∧ q < wj.heap.size)) ?_ ?_
              · refine wp_seq ?_
                refine Wk.reg ?_
                refine Wk.rPure 0 (some 49) (.pointer (some ⟨W4.heap.size, 0, none⟩)) rfl rfl (by kernel_rfl) (by kernel_rfl) ?_
                refine Wk.rPure 1 (some 50) (.int .i64 kd) rfl rfl (by kernel_rfl) (Wk.load1 3 (.tmp 49) rfl (by kernel_rfl) ⟨W4.heap.size, 0, none⟩ (by kernel_rfl) (.int .i64 kd) ((cell_of_row _ _ 0 _ _ _ hb3).trans rfl)) ?_
                by_cases hx3 : kd = (6 : Int)
                · refine Wk.rPure 2 (some 51) (.bool true) rfl rfl (by kernel_rfl) (Wk.boolT (b := (kd == (6 : Int))) (beq_iff_eq.2 (by first | exact hx3 | omega)) (by kernel_rfl)) ?_
                  refine Wk.rPure 3 (some 52) (.bool true) rfl rfl (by kernel_rfl) (by kernel_rfl) ?_
                  refine Wk.rPure 4 (some 53) (.pointer (some ⟨W4.heap.size, 3, none⟩)) rfl rfl (by kernel_rfl) (by kernel_rfl) ?_
                  refine Wk.rPure 5 (some 54) (.pointer (some ⟨W4.heap.size, 3, none⟩)) rfl rfl (by kernel_rfl) (Wk.index_arr 27 3 (.tmp 53) (.const (.int .i64 0)) rfl 2 Try.underlying27 1 (by kernel_rfl) W4.heap.size 3 0 .i64 (by kernel_rfl) (by kernel_rfl) (by decide)) ?_
                  refine Wk.rPure 6 (some 55) (.int .i64 k0) rfl rfl (by kernel_rfl) (Wk.load1 3 (.tmp 54) rfl (by kernel_rfl) ⟨W4.heap.size, 3, none⟩ (by kernel_rfl) (.int .i64 k0) ((cell_of_row _ _ 3 _ _ _ hb3).trans rfl)) ?_
                  by_cases hx4 : k0 ≥ (0 : Int)
                  · refine Wk.rPure 7 (some 56) (.bool true) rfl rfl (by kernel_rfl) (Wk.boolT (b := decide (k0 ≥ (0 : Int))) (decide_eq_true (by first | exact hx4 | omega)) (by kernel_rfl)) ?_
                    refine Wk.rPure 8 (some 57) (.bool true) rfl rfl (by kernel_rfl) (by kernel_rfl) ?_
                    refine Wk.rPure 9 (some 58) (.bool true) rfl rfl (by kernel_rfl) (by kernel_rfl) ?_
                    refine Wk.rPure 10 (some 59) (.pointer (some ⟨W4.heap.size, 3, none⟩)) rfl rfl (by kernel_rfl) (by kernel_rfl) ?_
                    refine Wk.rPure 11 (some 60) (.pointer (some ⟨W4.heap.size, 3, none⟩)) rfl rfl (by kernel_rfl) (Wk.index_arr 27 3 (.tmp 59) (.const (.int .i64 0)) rfl 2 Try.underlying27 1 (by kernel_rfl) W4.heap.size 3 0 .i64 (by kernel_rfl) (by kernel_rfl) (by decide)) ?_
                    refine Wk.rPure 12 (some 61) (.int .i64 k0) rfl rfl (by kernel_rfl) (Wk.load1 3 (.tmp 60) rfl (by kernel_rfl) ⟨W4.heap.size, 3, none⟩ (by kernel_rfl) (.int .i64 k0) ((cell_of_row _ _ 3 _ _ _ hb3).trans rfl)) ?_
                    by_cases hx5 : k0 ≤ (1048577 : Int)
                    · refine Wk.rPure 13 (some 62) (.bool true) rfl rfl (by kernel_rfl) (Wk.boolT (b := decide (k0 ≤ (1048577 : Int))) (decide_eq_true (by first | exact hx5 | omega)) (by kernel_rfl)) ?_
                      refine Wk.rPure 14 (some 63) (.bool true) rfl rfl (by kernel_rfl) (by kernel_rfl) ?_
                      refine Wk.rPure 15 (some 64) (.bool true) rfl rfl (by kernel_rfl) (by kernel_rfl) ?_
                      refine Wk.rPure 16 (some 65) (.int .i64 gt) rfl rfl (by kernel_rfl) (by kernel_rfl) ?_
                      by_cases hx6 : gt < (2 : Int)
                      · refine Wk.rPure 17 (some 66) (.bool true) rfl rfl (by kernel_rfl) (Wk.boolT (b := decide (gt < (2 : Int))) (decide_eq_true (by first | exact hx6 | omega)) (by kernel_rfl)) ?_
                        refine Wk.rPure 18 (some 67) (.bool true) rfl rfl (by kernel_rfl) (by kernel_rfl) ?_
                        refine Wk.rEnd 19 rfl ?_
                        refine Wk.nxt ?_
                        refine wp_cond_true (by kernel_rfl) ?_
                        refine wp_seq ?_
                        refine Wk.reg ?_
                        refine Wk.rPure 0 (some 68) (.pointer (some ⟨W4.heap.size, 3, none⟩)) rfl rfl (by kernel_rfl) (by kernel_rfl) ?_
                        refine Wk.rPure 1 (some 69) (.pointer (some ⟨W4.heap.size, 3, none⟩)) rfl rfl (by kernel_rfl) (Wk.index_arr 27 3 (.tmp 68) (.const (.int .i64 0)) rfl 2 Try.underlying27 1 (by kernel_rfl) W4.heap.size 3 0 .i64 (by kernel_rfl) (by kernel_rfl) (by decide)) ?_
                        refine Wk.rPure 2 (some 70) (.int .i64 k0) rfl rfl (by kernel_rfl) (Wk.load1 3 (.tmp 69) rfl (by kernel_rfl) ⟨W4.heap.size, 3, none⟩ (by kernel_rfl) (.int .i64 k0) ((cell_of_row _ _ 3 _ _ _ hb3).trans rfl)) ?_
                        obtain ⟨kz, hkz⟩ : ∃ z : Nat, k0 = ((z : Nat) : Int) := ⟨k0.toNat, by omega⟩
                        refine Wk.rEx 3 (some 71) _ rfl rfl (by kernel_rfl) (Mur.make8 26 5 (.tmp 70) (.tmp 70) rfl Try.underlying26 (by kernel_rfl) kz (by omega) ((show _ = Value.int .i64 k0 by kernel_rfl).trans (congrArg (Value.int .i64) hkz)) ((show _ = Value.int .i64 k0 by kernel_rfl).trans (congrArg (Value.int .i64) hkz))) ?_
                        rintro _ W7 ⟨rfl, hb4, ch6, sz3⟩
                        have zz7 := ch6.size
                        refine Wk.rPure 4 (some 10) (.slice (some ⟨W6.heap.size, 0, none⟩) kz kz) rfl rfl (by kernel_rfl) (by kernel_rfl) ?_
                        refine Wk.rEnd 5 rfl ?_
                        refine Wk.nxt ?_
                        refine Wk.reg ?_
                        refine Wk.rPure 0 (some 72) (.int .i64 gt) rfl rfl (by kernel_rfl) (by kernel_rfl) ?_
                        refine Wk.rPure 1 (some 73) (.int .i64 (gt + 1)) rfl rfl (by kernel_rfl) (Wk.int64 (n := gt + 1) (z := gt + 1) (by omega) (by omega) (by omega) (by kernel_rfl)) ?_
                        refine Wk.rPure 2 (some 5) (.int .i64 (gt + 1)) rfl rfl (by kernel_rfl) (by kernel_rfl) ?_
                        refine Wk.rEnd 3 rfl ?_
                        refine Wk.nxt ?_
                        exact ⟨some ⟨W6.heap.size, 0, none⟩, kz, kz, List.replicate kz 0, gt + 1, by kernel_rfl, (Wk.Chg.step ((Wk.Chg.refl _).more (by simp) : Wk.Chg [] W6 W6) ch6 trivial), (Mur.byt_blk (List.replicate kz 0) List.length_replicate hb4), (by omega), (fun h => by cases h), (by omega), (by omega), (fun q off e hn => by cases e; omega)⟩
                      · refine Wk.rPure 17 (some 66) (.bool false) rfl rfl (by kernel_rfl) (Wk.boolF (b := decide (gt < (2 : Int))) (decide_eq_false (by first | exact hx6 | omega)) (by kernel_rfl)) ?_
                        refine Wk.rPure 18 (some 67) (.bool false) rfl rfl (by kernel_rfl) (by kernel_rfl) ?_
                        refine Wk.rEnd 19 rfl ?_
                        refine Wk.nxt ?_
                        refine wp_cond_false (by kernel_rfl) ?_
                        refine wp_skip ?_
                        refine Wk.nxt ?_
                        have kk6 := Wk.Chg.step HB ch4 trivial
                        have kk7 := Wk.Chg.step kk6 ch5 ⟨.inr (by omega), trivial⟩
                        exact ⟨B, mb, cb, bs, gt, by kernel_rfl, ((Wk.Chg.refl _).more (by simp) : Wk.Chg [] W6 W6), (Mur.byt_chg hb kk7 (fun g off e hl => trivial)), (by omega), hbn, (by omega), (by omega), (fun q off e hn => by have := Mur.byt_lt hb q off e hn; omega)⟩
                    · refine Wk.rPure 13 (some 62) (.bool false) rfl rfl (by kernel_rfl) (Wk.boolF (b := decide (k0 ≤ (1048577 : Int))) (decide_eq_false (by first | exact hx5 | omega)) (by kernel_rfl)) ?_
                      refine Wk.rPure 14 (some 63) (.bool false) rfl rfl (by kernel_rfl) (by kernel_rfl) ?_
                      refine Wk.rPure 15 (some 64) (.bool false) rfl rfl (by kernel_rfl) (by kernel_rfl) ?_
                      refine Wk.rPass 16 (some 65) rfl rfl (by kernel_rfl) ?_
                      refine Wk.rPass 17 (some 66) rfl rfl (by kernel_rfl) ?_
                      refine Wk.rPure 18 (some 67) (.bool false) rfl rfl (by kernel_rfl) (by kernel_rfl) ?_
                      refine Wk.rEnd 19 rfl ?_
                      refine Wk.nxt ?_
                      refine wp_cond_false (by kernel_rfl) ?_
                      refine wp_skip ?_
                      refine Wk.nxt ?_
                      have kk8 := Wk.Chg.step HB ch4 trivial
                      have kk9 := Wk.Chg.step kk8 ch5 ⟨.inr (by omega), trivial⟩
                      exact ⟨B, mb, cb, bs, gt, by kernel_rfl, ((Wk.Chg.refl _).more (by simp) : Wk.Chg [] W6 W6), (Mur.byt_chg hb kk9 (fun g off e hl => trivial)), (by omega), hbn, (by omega), (by omega), (fun q off e hn => by have := Mur.byt_lt hb q off e hn; omega)⟩
                  · refine Wk.rPure 7 (some 56) (.bool false) rfl rfl (by kernel_rfl) (Wk.boolF (b := decide (k0 ≥ (0 : Int))) (decide_eq_false (by first | exact hx4 | omega)) (by kernel_rfl)) ?_
                    refine Wk.rPure 8 (some 57) (.bool false) rfl rfl (by kernel_rfl) (by kernel_rfl) ?_
                    refine Wk.rPure 9 (some 58) (.bool false) rfl rfl (by kernel_rfl) (by kernel_rfl) ?_
                    refine Wk.rPass 10 (some 59) rfl rfl (by kernel_rfl) ?_
                    refine Wk.rPass 11 (some 60) rfl rfl (by kernel_rfl) ?_
                    refine Wk.rPass 12 (some 61) rfl rfl (by kernel_rfl) ?_
                    refine Wk.rPass 13 (some 62) rfl rfl (by kernel_rfl) ?_
                    refine Wk.rPure 14 (some 63) (.bool false) rfl rfl (by kernel_rfl) (by kernel_rfl) ?_
                    refine Wk.rPure 15 (some 64) (.bool false) rfl rfl (by kernel_rfl) (by kernel_rfl) ?_
                    refine Wk.rPass 16 (some 65) rfl rfl (by kernel_rfl) ?_
                    refine Wk.rPass 17 (some 66) rfl rfl (by kernel_rfl) ?_
                    refine Wk.rPure 18 (some 67) (.bool false) rfl rfl (by kernel_rfl) (by kernel_rfl) ?_
                    refine Wk.rEnd 19 rfl ?_
                    refine Wk.nxt ?_
                    refine wp_cond_false (by kernel_rfl) ?_
                    refine wp_skip ?_
                    refine Wk.nxt ?_
                    have kk10 := Wk.Chg.step HB ch4 trivial
                    have kk11 := Wk.Chg.step kk10 ch5 ⟨.inr (by omega), trivial⟩
                    exact ⟨B, mb, cb, bs, gt, by kernel_rfl, ((Wk.Chg.refl _).more (by simp) : Wk.Chg [] W6 W6), (Mur.byt_chg hb kk11 (fun g off e hl => trivial)), (by omega), hbn, (by omega), (by omega), (fun q off e hn => by have := Mur.byt_lt hb q off e hn; omega)⟩
                · refine Wk.rPure 2 (some 51) (.bool false) rfl rfl (by kernel_rfl) (Wk.boolF (b := (kd == (6 : Int))) (beq_eq_false_iff_ne.2 (by first | exact hx3 | omega)) (by kernel_rfl)) ?_
                  refine Wk.rPure 3 (some 52) (.bool false) rfl rfl (by kernel_rfl) (by kernel_rfl) ?_
                  refine Wk.rPass 4 (some 53) rfl rfl (by kernel_rfl) ?_
                  refine Wk.rPass 5 (some 54) rfl rfl (by kernel_rfl) ?_
                  refine Wk.rPass 6 (some 55) rfl rfl (by kernel_rfl) ?_
                  refine Wk.rPass 7 (some 56) rfl rfl (by kernel_rfl) ?_
                  refine Wk.rPure 8 (some 57) (.bool false) rfl rfl (by kernel_rfl) (by kernel_rfl) ?_
                  refine Wk.rPure 9 (some 58) (.bool false) rfl rfl (by kernel_rfl) (by kernel_rfl) ?_
                  refine Wk.rPass 10 (some 59) rfl rfl (by kernel_rfl) ?_
                  refine Wk.rPass 11 (some 60) rfl rfl (by kernel_rfl) ?_
                  refine Wk.rPass 12 (some 61) rfl rfl (by kernel_rfl) ?_
                  refine Wk.rPass 13 (some 62) rfl rfl (by kernel_rfl) ?_
                  refine Wk.rPure 14 (some 63) (.bool false) rfl rfl (by kernel_rfl) (by kernel_rfl) ?_
                  refine Wk.rPure 15 (some 64) (.bool false) rfl rfl (by kernel_rfl) (by kernel_rfl) ?_
                  refine Wk.rPass 16 (some 65) rfl rfl (by kernel_rfl) ?_
                  refine Wk.rPass 17 (some 66) rfl rfl (by kernel_rfl) ?_
                  refine Wk.rPure 18 (some 67) (.bool false) rfl rfl (by kernel_rfl) (by kernel_rfl) ?_
                  refine Wk.rEnd 19 rfl ?_
                  refine Wk.nxt ?_
                  refine wp_cond_false (by kernel_rfl) ?_
                  refine wp_skip ?_
                  refine Wk.nxt ?_
                  have kk12 := Wk.Chg.step HB ch4 trivial
                  have kk13 := Wk.Chg.step kk12 ch5 ⟨.inr (by omega), trivial⟩
                  exact ⟨B, mb, cb, bs, gt, by kernel_rfl, ((Wk.Chg.refl _).more (by simp) : Wk.Chg [] W6 W6), (Mur.byt_chg hb kk13 (fun g off e hl => trivial)), (by omega), hbn, (by omega), (by omega), (fun q off e hn => by have := Mur.byt_lt hb q off e hn; omega)⟩
              · rintro aa3 W8 ⟨AI, nI, cI, lI, gtI, hF3, ch7, hbI, hnc, hnI, hbg, hgI, haI⟩
                have zz8 := ch7.size
                generalize aa3.tmps = bb3 at hF3
                subst hF3
                refine Wk.nxt ?_
                refine wp_seq ?_
                refine wp_seq ?_
                refine Wk.reg ?_
                refine Wk.rPure 0 (some 74) (.slice AI nI cI) rfl rfl (by kernel_rfl) (by kernel_rfl) ?_
                refine Wk.rPure 1 (some 75) (.int .i64 ((nI : Nat) : Int)) rfl rfl (by kernel_rfl) (by kernel_rfl) ?_
                by_cases hx7 : ((nI : Nat) : Int) > (1000 : Int)
                · refine Wk.rPure 2 (some 76) (.bool true) rfl rfl (by kernel_rfl) (Wk.boolT (b := decide (((nI : Nat) : Int) > (1000 : Int))) (decide_eq_true (by first | exact hx7 | omega)) (by kernel_rfl)) ?_
                  refine Wk.rPure 3 (some 77) (.bool true) rfl rfl (by kernel_rfl) (by kernel_rfl) ?_
                  refine Wk.rPure 4 (some 78) (.pointer (some ⟨W4.heap.size, 0, none⟩)) rfl rfl (by kernel_rfl) (by kernel_rfl) ?_
                  refine Wk.rPure 5 (some 79) (.int .i64 kd) rfl rfl (by kernel_rfl) (Wk.load1 3 (.tmp 78) rfl (by kernel_rfl) ⟨W4.heap.size, 0, none⟩ (by kernel_rfl) (.int .i64 kd) ((cell_of_row _ _ 0 _ _ _ (Wk.Chg.hp ch7 hb3 trivial)).trans rfl)) ?_
                  refine Wk.rPure 6 (some 80) (.bool true) rfl rfl (by kernel_rfl) (Wk.boolT (b := (kd == (1 : Int))) (beq_iff_eq.2 (by first | exact hx2 | omega)) (by kernel_rfl)) ?_
                  refine Wk.rPure 7 (some 81) (.bool true) rfl rfl (by kernel_rfl) (by kernel_rfl) ?_
                  refine Wk.rEnd 8 rfl ?_
                  refine Wk.nxt ?_
                  refine wp_cond_true (by kernel_rfl) ?_
                  refine wp_exit ?_
                  refine Wk.thX ?_
                  refine Wk.inY (by decide) ?_
                  refine Wk.thX ?_
                  refine Wk.thX ?_
                  refine Wk.inX ?_
                  refine Wk.nxt ?_
                  refine Wk.reg ?_
                  refine Wk.rPure 0 (some 230) (.int .i64 ((k + 1 : Nat) : Int)) rfl rfl (by kernel_rfl) (Wk.int64 (n := ((k : Nat) : Int) + 1) (z := ((k + 1 : Nat) : Int)) (by omega) (by omega) (by omega) (by kernel_rfl)) ?_
                  refine Wk.rPure 1 (some 34) (.int .i64 ((k + 1 : Nat) : Int)) rfl rfl (by kernel_rfl) (by kernel_rfl) ?_
                  refine Wk.rEnd 2 rfl ?_
                  refine Wk.nxt ?_
                  have hD3 := Mur.DskF.chg hD ch4 (fun s hs hl => trivial)
                  have hD4 := Mur.DskF.chg hD3 ch5 (fun s hs hl => ⟨by have := hM s hs; omega, trivial⟩)
                  have hD5 := Mur.DskF.chg hD4 ch7 (fun s hs hl => trivial)
                  have hR1 := Mur.Ref.chg hR ch4 (fun s hs hl => trivial)
                  have hR2 := Mur.Ref.chg hR1 ch5 (fun s hs hl => ⟨by have := hMR s hs; omega, trivial⟩)
                  have hR3 := Mur.Ref.chg hR2 ch7 (fun s hs hl => trivial)
                  have kk14 := Wk.Chg.step HB ch4 trivial
                  have kk15 := Wk.Chg.step kk14 ch5 ⟨.inr (by omega), trivial⟩
                  have kk16 := Wk.Chg.step kk15 ch7 trivial
                  refine ⟨_, ?_, k + 1, gd, F, d, A0, n0, c0, A1, n1, c1, gtI, rfl, by kernel_rfl, (by omega), hD5, hR3, hJ, (by omega), kk16, (by omega)⟩
                  · omega
                · refine Wk.rPure 2 (some 76) (.bool false) rfl rfl (by kernel_rfl) (Wk.boolF (b := decide (((nI : Nat) : Int) > (1000 : Int))) (decide_eq_false (by first | exact hx7 | omega)) (by kernel_rfl)) ?_
                  refine Wk.rPure 3 (some 77) (.bool false) rfl rfl (by kernel_rfl) (by kernel_rfl) ?_
                  refine Wk.rPass 4 (some 78) rfl rfl (by kernel_rfl) ?_
                  refine Wk.rPass 5 (some 79) rfl rfl (by kernel_rfl) ?_
                  refine Wk.rPass 6 (some 80) rfl rfl (by kernel_rfl) ?_
                  refine Wk.rPure 7 (some 81) (.bool false) rfl rfl (by kernel_rfl) (by kernel_rfl) ?_
                  refine Wk.rEnd 8 rfl ?_
                  refine Wk.nxt ?_
                  refine wp_cond_false (by kernel_rfl) ?_
                  refine wp_skip ?_
                  refine Wk.nxt ?_
                  refine wp_seq ?_
                  refine Wk.reg ?_
                  refine Wk.rEx 0 (some 82) _ rfl rfl (by kernel_rfl) (Wk.new_ex (.slice (some ⟨W8.heap.size, 0, none⟩) 0 0) #[] 5 (by kernel_rfl)) ?_
                  rintro _ W9 ⟨rfl, hb5, ch8, sz4⟩
                  have zz9 := ch8.size
                  refine Wk.rPure 1 (some 83) (.slice AI nI cI) rfl rfl (by kernel_rfl) (by kernel_rfl) ?_
                  have ow1 := Mur.own8_empty hb5 (Nat.le_refl _)
                  refine Wk.rEx 2 (some 84) _ rfl rfl (by kernel_rfl) (Mur.append8 (.tmp 82) (.tmp 83) 26 5 rfl Try.underlying26 (by kernel_rfl) W8.heap.size (some ⟨W8.heap.size, 0, none⟩) 0 0 ([]) AI nI cI lI (by kernel_rfl) (by kernel_rfl) ow1.own (Mur.byt_chgp hbI ch8 (fun g off e hn hl => trivial)) hnI (by omega) (by omega) nI (by omega) lI rfl) ?_
                  rintro _ W10 ⟨AA1, nn1, rfl, ow2, ch9, ha1⟩
                  have zz10 := ch9.size
                  have hq1 := ow2.nc
                  have hq2 := ow2.cm
                  refine Wk.rPure 3 (some 11) (.slice AA1 nI nn1) rfl rfl (by kernel_rfl) (by kernel_rfl) ?_
                  refine Wk.rEnd 4 rfl ?_
                  refine Wk.nxt ?_
                  refine wp_seq ?_
                  refine Wk.dReg (W1.heap.size :: F) (by kernel_rfl) ?_
                  intro W11 ch10 sz5
                  have zz11 := ch10.size
                  have sS1 : Wk.Chg (W1.heap.size :: F) W11 W11 := (Wk.Chg.refl _).more (by simp)
                  refine Wk.dVal 0 (some 85) (.pointer (some ⟨gd, 0, none⟩)) rfl rfl (by kernel_rfl) (by kernel_rfl) (by kernel_rfl) (fun _ _ _ h => h) (by kernel_rfl) (fun w' hw' => by kernel_rfl) sS1 ?_
                  refine Wk.dVal 1 (some 86) (.pointer (some ⟨W4.heap.size, 1, none⟩)) rfl rfl (by kernel_rfl) (by kernel_rfl) (by kernel_rfl) (fun _ _ _ h => h) (by kernel_rfl) (fun w' hw' => by kernel_rfl) sS1 ?_
                  refine Wk.dVal 2 (some 87) (.int .i64 f) rfl rfl (by kernel_rfl) (by kernel_rfl) (by kernel_rfl) (fun _ _ _ h => h) (by kernel_rfl) (fun w' hw' => (Wk.load1 3 (.tmp 86) rfl (by kernel_rfl) ⟨W4.heap.size, 1, none⟩ (by kernel_rfl) (.int .i64 f) ((cell_of_row _ _ 1 _ _ _ (Wk.Chg.hp hw' (Wk.Chg.hp ch10 (Wk.Chg.hp ch9 (Wk.Chg.hp ch8 (Wk.Chg.hp ch7 hb3 trivial) trivial) (Wk.off_blk (fun gz hgz => by have := ow1.lt gz hgz; omega))) trivial) ⟨by omega, (Mur.off_iff.2 (fun t ht => by have := hM t ht; omega))⟩)).trans rfl))) sS1 ?_
                  refine Wk.dVal 3 (some 88) (.slice AA1 nI nn1) rfl rfl (by kernel_rfl) (by kernel_rfl) (by kernel_rfl) (fun _ _ _ h => h) (by kernel_rfl) (fun w' hw' => by kernel_rfl) sS1 ?_
                  refine Wk.dVal 5 (some 90) (.pointer (some ⟨W1.heap.size, 0, none⟩)) rfl rfl (by kernel_rfl) (by kernel_rfl) (by kernel_rfl) (fun _ _ _ h => h) (by kernel_rfl) (fun w' hw' => by kernel_rfl) sS1 ?_
                  refine Wk.dVal 6 (some 91) (.pointer (some ⟨W4.heap.size, 1, none⟩)) rfl rfl (by kernel_rfl) (by kernel_rfl) (by kernel_rfl) (fun _ _ _ h => h) (by kernel_rfl) (fun w' hw' => by kernel_rfl) sS1 ?_
                  refine Wk.dVal 7 (some 92) (.int .i64 f) rfl rfl (by kernel_rfl) (by kernel_rfl) (by kernel_rfl) (fun _ _ _ h => h) (by kernel_rfl) (fun w' hw' => (Wk.load1 3 (.tmp 91) rfl (by kernel_rfl) ⟨W4.heap.size, 1, none⟩ (by kernel_rfl) (.int .i64 f) ((cell_of_row _ _ 1 _ _ _ (Wk.Chg.hp hw' (Wk.Chg.hp ch10 (Wk.Chg.hp ch9 (Wk.Chg.hp ch8 (Wk.Chg.hp ch7 hb3 trivial) trivial) (Wk.off_blk (fun gz hgz => by have := ow1.lt gz hgz; omega))) trivial) ⟨by omega, (Mur.off_iff.2 (fun t ht => by have := hM t ht; omega))⟩)).trans rfl))) sS1 ?_
                  refine Wk.dVal 8 (some 93) (.slice AI nI cI) rfl rfl (by kernel_rfl) (by kernel_rfl) (by kernel_rfl) (fun _ _ _ h => h) (by kernel_rfl) (fun w' hw' => by kernel_rfl) sS1 ?_
                  refine Wk.dOp 4 (by kernel_rfl) ?_
                  refine Wk.oCall (some 89) 10 [.tmp 85, .tmp 87, .tmp 88] #[23, 3, 26] [.pointer (some ⟨gd, 0, none⟩), .int .i64 f, .slice AA1 nI nn1] rfl rfl (by kernel_rfl) rfl (by kernel_rfl) (by kernel_rfl) ?_
                  have hD6 := Mur.DskF.chg hD ch4 (fun s hs hl => trivial)
                  have hD7 := Mur.DskF.chg hD6 ch5 (fun s hs hl => ⟨by have := hM s hs; omega, trivial⟩)
                  have hD8 := Mur.DskF.chg hD7 ch7 (fun s hs hl => trivial)
                  have hD9 := Mur.DskF.chg hD8 ch8 (fun s hs hl => trivial)
                  have hD10 := Mur.DskF.chg hD9 ch9 (fun s hs hl => Wk.off_blk (fun q hq => by have := ow1.lt q hq; have := hM s hs; omega))
                  have hD11 := Mur.DskF.chg hD10 ch10 (fun s hs hl => trivial)
                  have ow3 := Mur.own8 (Wk.own_chg ow2.own ch10 (fun q e _ _ => trivial))
                  have hR4 := Mur.Ref.chg hR ch4 (fun s hs hl => trivial)
                  have hR5 := Mur.Ref.chg hR4 ch5 (fun s hs hl => ⟨by have := hMR s hs; omega, trivial⟩)
                  have hR6 := Mur.Ref.chg hR5 ch7 (fun s hs hl => trivial)
                  have hR7 := Mur.Ref.chg hR6 ch8 (fun s hs hl => trivial)
                  have hR8 := Mur.Ref.chg hR7 ch9 (fun s hs hl => Wk.off_blk (fun q hq => by have := ow1.lt q hq; have := hMR s hs; omega))
                  have hR9 := Mur.Ref.chg hR8 ch10 (fun s hs hl => trivial)
                  refine (Append_any gd d F f AA1 nI nn1 lI W11 hD11 ow3.byt ow3.nil).mono ?_
                  rintro _ W12 ⟨FF2, rfl, hD12, ch11, no1⟩
                  have hM2 := Mur.DskF.mem hD12
                  have zz12 := ch11.size
                  have hR10 := Mur.Ref.chg hR9 ch11 (fun s hs hl => Mur.Dj.off1 hJ hs)
                  have jj1 := Mur.Dj.step1 hJ no1 hMR (by omega)
                  have sS2 := Wk.Chg.step sS1 ch11 (Mur.newOr_iff.2 (fun t ht => .inl (List.mem_cons_of_mem _ ht)))
                  refine ⟨_, rfl, sS2, ?_⟩
                  refine Wk.dOp 9 (by kernel_rfl) ?_
                  refine Wk.oCall (some 94) 17 [.tmp 90, .tmp 92, .tmp 93] #[42, 3, 26] [.pointer (some ⟨W1.heap.size, 0, none⟩), .int .i64 f, .slice AI nI cI] rfl rfl (by kernel_rfl) rfl (by kernel_rfl) (by kernel_rfl) ?_
                  refine (RAppend_any W1.heap.size d _ f AI nI cI lI W12 ⟨⟨_, _, _, _, _, _, hR10, rfl⟩⟩ hkd.1.2 hkd.2.2 (Mur.byt_chgp (Mur.byt_chgp (Mur.byt_chgp (Mur.byt_chgp hbI ch8 (fun g off e hn hl => trivial)) ch9 (fun g off e hn hl => (Wk.off_blk (fun gz hgz => by have := ow1.lt gz hgz; have := haI g off e hn; omega)))) ch10 (fun g off e hn hl => trivial)) ch11 (fun g off e hn hl => (Mur.off_iff.2 (fun t ht => by have := hM t ht; have := haI g off e hn; omega)))) hnI (by omega)).mono ?_
                  rintro _ W13 ⟨_, rfl, ⟨RA1, rn1, rc1, RA2, rn2, rc2, hR11, rfl⟩, ch12, no2⟩
                  have zz13 := ch12.size
                  have hM3 := Mur.Ref.mem hR11
                  have hD13 := Mur.DskF.chg hD12 ch12 (fun s hs hl => ⟨fun e => jj1 s hs (by rw [e]; exact Mur.Ref.self), trivial⟩)
                  have jj2 := Mur.Dj.step2 jj1 no2 hM2 (by omega)
                  have sS3 := Wk.Chg.step sS2 ch12 ⟨.inl (by simp), trivial⟩
                  refine ⟨_, rfl, sS3, ?_⟩
                  refine Wk.dVal 10 (some 8) (.int .i64 (Mur.Dk.appE d f nI)) rfl rfl (by kernel_rfl) (by kernel_rfl) (by kernel_rfl) (fun _ _ _ h => h) (by kernel_rfl) (fun w' hw' => by kernel_rfl) sS3 ?_
                  refine Wk.dVal 11 (some 9) (.int .i64 (Mur.Dk.appE d f nI)) rfl rfl (by kernel_rfl) (by kernel_rfl) (by kernel_rfl) (fun _ _ _ h => h) (by kernel_rfl) (fun w' hw' => by kernel_rfl) sS3 ?_
                  refine Wk.dEnd (by kernel_rfl) ?_
                  refine Wk.nxt ?_
                  refine wp_seq ?_
                  refine Wk.reg ?_
                  refine Wk.rPure 0 (some 95) (.slice AA1 nI nn1) rfl rfl (by kernel_rfl) (by kernel_rfl) ?_
                  refine Wk.rPure 1 (some 96) (.int .i64 ((nI : Nat) : Int)) rfl rfl (by kernel_rfl) (by kernel_rfl) ?_
                  refine Wk.rPure 2 (some 97) (.int .i64 0) rfl rfl (by kernel_rfl) (by kernel_rfl) ?_
                  refine Wk.rEnd 3 rfl ?_
                  refine Wk.nxt ?_
                  refine wp_block ?_
                  have ow4 := Mur.own8 (Wk.own_chg ow3.own ch11 (fun q e _ _ => (Mur.off_iff.2 (fun t ht => by have := hM t ht; have := ow2.lt q e; omega))))
                  have ow5 := Mur.own8 (Wk.own_chg ow4.own ch12 (fun q e _ _ => ⟨by have := ow2.lt q e; omega, trivial⟩))
                  have kk17 := Wk.Chg.step HB ch4 trivial
                  have kk18 := Wk.Chg.step kk17 ch5 ⟨.inr (by omega), trivial⟩
                  have kk19 := Wk.Chg.step kk18 ch7 trivial
                  have kk20 := Wk.Chg.step kk19 ch8 trivial
                  have kk21 := Wk.Chg.step kk20 ch9 (Wk.newOr_blk (fun g hg => by have := ow1.lt g hg; omega))
                  have kk22 := Wk.Chg.step kk21 ch10 trivial
                  have kk23 := Wk.Chg.step kk22 ch11 (Mur.newOr_iff.2 (fun t ht => .inr (by have := hM t ht; omega)))
                  have kk24 := Wk.Chg.step kk23 ch12 ⟨.inr (by omega), trivial⟩
                  have hinF : ∀ s ∈ FF2, ∀ q, (Value.slice AA1 nI nn1).ownBlock = some q → s ≠ q := fun s hs q hq => by
                    have l1 := ow2.lt q hq
                    rcases Mur.newOr_iff.1 no1 s hs with h1 | h1
                    · have := hM s h1; omega
                    · omega
                  have hinG : ∀ s ∈ W1.heap.size :: (Mur.ablk RA1 ++ Mur.ablk RA2), ∀ q, (Value.slice AA1 nI nn1).ownBlock = some q → s ≠ q := fun s hs q hq => by
                    have l1 := ow2.lt q hq
                    rcases Mur.newOr_iff.1 no2 s hs with h1 | h1
                    · have := hMR s h1; omega
                    · omega
                  refine Wk.loop (fun m_ a wr => ∃ (iw : Nat) (lw : List UInt8), m_ = nI - iw ∧ a = Plays_F2 a.tmps (.pointer (some ⟨gd, 0, none⟩)) (.pointer (some ⟨W1.heap.size, 0, none⟩)) (.int .i64 gtI) (.int .i64 (Mur.Dk.appE d f nI)) (.int .i64 (Mur.Dk.appE d f nI)) (.slice AA1 nI nn1) (.slice (some ⟨g, off, none⟩) n c) (.int .i64 ((n : Nat) : Int)) (.int .i64 ((k : Nat) : Int)) (.int .i64 ((nI : Nat) : Int)) (.int .i64 ((iw : Nat) : Int)) ∧ iw ≤ nI ∧ Mur.Own8 wr W8.heap.size 5 AA1 nI nn1 lw ∧ Wk.Chg (Wk.blk (.slice AA1 nI nn1)) W13 wr) (nI - 0) ?_ ?_
                  · refine ⟨0, lI, rfl, by kernel_rfl, Nat.zero_le _, ow5, (Wk.Chg.refl _).more (by simp)⟩
                  · rintro mm2 aa4 W14 ⟨iw, lw, hmm2, hF4, hiw, hW, hC⟩
                    generalize aa4.tmps = bb4 at hF4
                    subst hF4
                    have hlw := hW.byt.1
                    by_cases hltw : iw < nI
                    · obtain ⟨qw, hqw_, hqwb, hqwl⟩ := Mur.own8_some hW (by omega)
                      subst hqw_
                      refine wp_seq ?_
                      refine Wk.reg ?_
                      refine Wk.rPure 0 (some 98) (.bool true) rfl rfl (by kernel_rfl) (Wk.boolT (b := decide (((iw : Nat) : Int) < ((nI : Nat) : Int))) (decide_eq_true (by omega)) (by kernel_rfl)) ?_
                      refine Wk.rEnd 1 rfl ?_
                      refine Wk.nxt ?_
                      refine wp_seq ?_
                      refine wp_cond_true (by kernel_rfl) ?_
                      refine wp_skip ?_
                      refine Wk.nxt ?_
                      refine wp_seq ?_
                      refine wp_block ?_
                      refine wp_seq ?_
                      refine Wk.reg ?_
                      refine Wk.rPure 0 (some 99) (.int .i64 ((iw : Nat) : Int)) rfl rfl (by kernel_rfl) (by kernel_rfl) ?_
                      refine Wk.rPure 1 (some 12) (.int .i64 ((iw : Nat) : Int)) rfl rfl (by kernel_rfl) (by kernel_rfl) ?_
                      refine Wk.rEnd 2 rfl ?_
                      refine Wk.nxt ?_
                      refine Wk.reg ?_
                      refine Wk.rPure 0 (some 100) (.slice (some ⟨qw, 0, none⟩) nI nn1) rfl rfl (by kernel_rfl) (by kernel_rfl) ?_
                      refine Wk.rPure 1 (some 101) (.int .i64 ((iw : Nat) : Int)) rfl rfl (by kernel_rfl) (by kernel_rfl) ?_
                      refine Wk.rPure 2 (some 102) (.pointer (some ⟨qw, 0 + iw * 1, none⟩)) rfl rfl (by kernel_rfl) (Wk.index_sl 26 5 (.tmp 100) (.tmp 101) rfl Try.underlying26 1 (by kernel_rfl) qw 0 nI nn1 iw .i64 (by kernel_rfl) (by kernel_rfl) (by omega)) ?_
                      refine Wk.rPure 3 (some 103) (.int .u8 (((lw.getD iw 0).toNat : Nat) : Int)) rfl rfl (by kernel_rfl) (Wk.load1 5 (.tmp 102) rfl (by kernel_rfl) ⟨qw, 0 + iw * 1, none⟩ (by kernel_rfl) (.int .u8 (((lw.getD iw 0).toNat : Nat) : Int)) (Mur.byt_cell hW.byt iw hltw)) ?_
                      refine Wk.rPure 4 (some 104) (.int .u8 ((((lw.getD iw 0) + 1).toNat : Nat) : Int)) rfl rfl (by kernel_rfl) (Mur.add8 5 5 (.tmp 103) (.const (.int .u8 1)) rfl (lw.getD iw 0) (by kernel_rfl) (by kernel_rfl)) ?_
                      refine Wk.rPure 5 (some 105) (.pointer (some ⟨qw, 0 + iw * 1, none⟩)) rfl rfl (by kernel_rfl) (Wk.index_sl 26 5 (.tmp 100) (.tmp 101) rfl Try.underlying26 1 (by kernel_rfl) qw 0 nI nn1 iw .i64 (by kernel_rfl) (by kernel_rfl) (by omega)) ?_
                      refine Wk.rExS 6 none _ rfl rfl (by kernel_rfl) (Mur.own_store 5 (.tmp 105) (.tmp 104) rfl (by kernel_rfl) qw iw (by kernel_rfl) ((lw.getD iw 0) + 1) (by kernel_rfl) hW hltw) ?_
                      rintro W15 ⟨ow6, ch13⟩
                      have zz14 := ch13.size
                      refine Wk.rEnd 7 rfl ?_
                      refine Wk.inN ?_
                      refine Wk.nxt ?_
                      refine Wk.reg ?_
                      refine Wk.rPure 0 (some 106) (.int .i64 ((iw + 1 : Nat) : Int)) rfl rfl (by kernel_rfl) (Wk.int64 (n := ((iw : Nat) : Int) + 1) (z := ((iw + 1 : Nat) : Int)) (by omega) (by omega) (by omega) (by kernel_rfl)) ?_
                      refine Wk.rPure 1 (some 97) (.int .i64 ((iw + 1 : Nat) : Int)) rfl rfl (by kernel_rfl) (by kernel_rfl) ?_
                      refine Wk.rEnd 2 rfl ?_
                      refine Wk.nxt ?_
                      refine ⟨_, ?_, iw + 1, lw.set iw ((lw.getD iw 0) + 1), rfl, by kernel_rfl, (by omega), ow6, (Wk.Chg.step hC ch13 ⟨.inl (by simp [Wk.blk, Value.ownBlock]), trivial⟩)⟩
                      · omega
                    · have zz15 := hC.size
                      have hD14 := Mur.DskF.chg hD13 hC (fun s hs hl => Wk.off_blk (fun q hq => hinF s hs q hq))
                      have hR12 := Mur.Ref.chg hR11 hC (fun s hs hl => Wk.off_blk (fun q hq => hinG s hs q hq))
                      refine wp_seq ?_
                      refine Wk.reg ?_
                      refine Wk.rPure 0 (some 98) (.bool false) rfl rfl (by kernel_rfl) (Wk.boolF (b := decide (((iw : Nat) : Int) < ((nI : Nat) : Int))) (decide_eq_false (by omega)) (by kernel_rfl)) ?_
                      refine Wk.rEnd 1 rfl ?_
                      refine Wk.nxt ?_
                      refine wp_seq ?_
                      refine wp_cond_false (by kernel_rfl) ?_
                      refine wp_exit ?_
                      refine Wk.thX ?_
                      refine Wk.thX ?_
                      refine Wk.inX ?_
                      refine Wk.inN ?_
                      refine Wk.nxt ?_
                      have kk25 := Wk.Chg.step kk24 hC (Wk.newOr_blk (fun g hg => by have := ow2.lt g hg; omega))
                      exact ⟨gd, FF2, (Mur.Dk.app d f lI), RA1, rn1, rc1, RA2, rn2, rc2, gtI, Mur.Dk.appE d f nI, by kernel_rfl, hD14, hR12, jj2, (by omega), kk25, (by omega)⟩
            · refine Wk.rPure 0 (some 45) (.bool false) rfl rfl (by kernel_rfl) (Wk.boolF (b := (kd == (1 : Int))) (beq_eq_false_iff_ne.2 (by first | exact hx2 | omega)) (by kernel_rfl)) ?_
              refine Wk.rPure 1 (some 44) (.bool false) rfl rfl (by kernel_rfl) (by kernel_rfl) ?_
              refine Wk.rEnd 2 rfl ?_
              refine Wk.nxt ?_
              refine wp_cond_false (by kernel_rfl) ?_
              refine Wk.reg ?_
              by_cases hx8 : kd = (6 : Int)
              · refine Wk.rPure 0 (some 46) (.bool true) rfl rfl (by kernel_rfl) (Wk.boolT (b := (kd == (6 : Int))) (beq_iff_eq.2 (by first | exact hx8 | omega)) (by kernel_rfl)) ?_
                refine Wk.rPure 1 (some 44) (.bool true) rfl rfl (by kernel_rfl) (by kernel_rfl) ?_
                refine Wk.rEnd 2 rfl ?_
                refine Wk.nxt ?_
                refine wp_cond_true (by kernel_rfl) ?_
                refine wp_seq ?_
                refine Wk.reg ?_
                refine Wk.rPure 0 (some 47) (.pointer (some ⟨W4.heap.size, 2, none⟩)) rfl rfl (by kernel_rfl) (by kernel_rfl) ?_
                refine Wk.rPure 1 (some 48) (.slice B mb cb) rfl rfl (by kernel_rfl) (Wk.load1 26 (.tmp 47) rfl (by kernel_rfl) ⟨W4.heap.size, 2, none⟩ (by kernel_rfl) (.slice B mb cb) ((cell_of_row _ _ 2 _ _ _ hb3).trans rfl)) ?_
                refine Wk.rPure 2 (some 10) (.slice B mb cb) rfl rfl (by kernel_rfl) (by kernel_rfl) ?_
                refine Wk.rEnd 3 rfl ?_
                refine Wk.nxt ?_
                refine wp_seq ?_
                refine Wk.cut (fun a wj => ∃ (AI : Option Addr) (nI : Nat) (cI : Nat) (lI : List UInt8) (gtI : Int), a = Plays_J16_4 a.tmps (.pointer (some ⟨gd, 0, none⟩)) (.pointer (some ⟨W1.heap.size, 0, none⟩)) (.int .i64 gtI) (.pointer (some ⟨W4.heap.size, 0, none⟩)) (.slice AI nI cI) (.slice (some ⟨g, off, none⟩) n c) (.int .i64 ((n : Nat) : Int)) (.int .i64 ((k : Nat) : Int)) ∧ Wk.Chg [] W6 wj ∧ Byt wj AI nI lI ∧ nI ≤ cI ∧ (AI = none → cI = 0) ∧ nI ≤ 140737488351232 ∧ (0 ≤ gtI ∧ gtI ≤ 2) ∧ (∀ q off, AI = some ⟨q, off, none⟩ → 0 < nI → (q < w.heap.size ∨ W4.heap.size ≤ q) ∧ q < wj.heap.size)) ?_ ?_
                · refine wp_seq ?_
                  refine Wk.reg ?_
                  refine Wk.rPure 0 (some 49) (.pointer (some ⟨W4.heap.size, 0, none⟩)) rfl rfl (by kernel_rfl) (by kernel_rfl) ?_
                  refine Wk.rPure 1 (some 50) (.int .i64 kd) rfl rfl (by kernel_rfl) (Wk.load1 3 (.tmp 49) rfl (by kernel_rfl) ⟨W4.heap.size, 0, none⟩ (by kernel_rfl) (.int .i64 kd) ((cell_of_row _ _ 0 _ _ _ hb3).trans rfl)) ?_
                  refine Wk.rPure 2 (some 51) (.bool true) rfl rfl (by kernel_rfl) (Wk.boolT (b := (kd == (6 : Int))) (beq_iff_eq.2 (by first | exact hx8 | omega)) (by kernel_rfl)) ?_
                  refine Wk.rPure 3 (some 52) (.bool true) rfl rfl (by kernel_rfl) (by kernel_rfl) ?_
                  refine Wk.rPure 4 (some 53) (.pointer (some ⟨W4.heap.size, 3, none⟩)) rfl rfl (by kernel_rfl) (by kernel_rfl) ?_
                  refine Wk.rPure 5 (some 54) (.pointer (some ⟨W4.heap.size, 3, none⟩)) rfl rfl (by kernel_rfl) (Wk.index_arr 27 3 (.tmp 53) (.const (.int .i64 0)) rfl 2 Try.underlying27 1 (by kernel_rfl) W4.heap.size 3 0 .i64 (by kernel_rfl) (by kernel_rfl) (by decide)) ?_
                  refine Wk.rPure 6 (some 55) (.int .i64 k0) rfl rfl (by kernel_rfl) (Wk.load1 3 (.tmp 54) rfl (by kernel_rfl) ⟨W4.heap.size, 3, none⟩ (by kernel_rfl) (.int .i64 k0) ((cell_of_row _ _ 3 _ _ _ hb3).trans rfl)) ?_
                  by_cases hx9 : k0 ≥ (0 : Int)
                  · refine Wk.rPure 7 (some 56) (.bool true) rfl rfl (by kernel_rfl) (Wk.boolT (b := decide (k0 ≥ (0 : Int))) (decide_eq_true (by first | exact hx9 | omega)) (by kernel_rfl)) ?_
                    refine Wk.rPure 8 (some 57) (.bool true) rfl rfl (by kernel_rfl) (by kernel_rfl) ?_
                    refine Wk.rPure 9 (some 58) (.bool true) rfl rfl (by kernel_rfl) (by kernel_rfl) ?_
                    refine Wk.rPure 10 (some 59) (.pointer (some ⟨W4.heap.size, 3, none⟩)) rfl rfl (by kernel_rfl) (by kernel_rfl) ?_
                    refine Wk.rPure 11 (some 60) (.pointer (some ⟨W4.heap.size, 3, none⟩)) rfl rfl (by kernel_rfl) (Wk.index_arr 27 3 (.tmp 59) (.const (.int .i64 0)) rfl 2 Try.underlying27 1 (by kernel_rfl) W4.heap.size 3 0 .i64 (by kernel_rfl) (by kernel_rfl) (by decide)) ?_
                    refine Wk.rPure 12 (some 61) (.int .i64 k0) rfl rfl (by kernel_rfl) (Wk.load1 3 (.tmp 60) rfl (by kernel_rfl) ⟨W4.heap.size, 3, none⟩ (by kernel_rfl) (.int .i64 k0) ((cell_of_row _ _ 3 _ _ _ hb3).trans rfl)) ?_
                    by_cases hx10 : k0 ≤ (1048577 : Int)
                    · refine Wk.rPure 13 (some 62) (.bool true) rfl rfl (by kernel_rfl) (Wk.boolT (b := decide (k0 ≤ (1048577 : Int))) (decide_eq_true (by first | exact hx10 | omega)) (by kernel_rfl)) ?_
                      refine Wk.rPure 14 (some 63) (.bool true) rfl rfl (by kernel_rfl) (by kernel_rfl) ?_
                      refine Wk.rPure 15 (some 64) (.bool true) rfl rfl (by kernel_rfl) (by kernel_rfl) ?_
                      refine Wk.rPure 16 (some 65) (.int .i64 gt) rfl rfl (by kernel_rfl) (by kernel_rfl) ?_
                      by_cases hx11 : gt < (2 : Int)
                      · refine Wk.rPure 17 (some 66) (.bool true) rfl rfl (by kernel_rfl) (Wk.boolT (b := decide (gt < (2 : Int))) (decide_eq_true (by first | exact hx11 | omega)) (by kernel_rfl)) ?_
                        refine Wk.rPure 18 (some 67) (.bool true) rfl rfl (by kernel_rfl) (by kernel_rfl) ?_
                        refine Wk.rEnd 19 rfl ?_
                        refine Wk.nxt ?_
                        refine wp_cond_true (by kernel_rfl) ?_
                        refine wp_seq ?_
                        refine Wk.reg ?_
                        refine Wk.rPure 0 (some 68) (.pointer (some ⟨W4.heap.size, 3, none⟩)) rfl rfl (by kernel_rfl) (by kernel_rfl) ?_
                        refine Wk.rPure 1 (some 69) (.pointer (some ⟨W4.heap.size, 3, none⟩)) rfl rfl (by kernel_rfl) (Wk.index_arr 27 3 (.tmp 68) (.const (.int .i64 0)) rfl 2 Try.underlying27 1 (by kernel_rfl) W4.heap.size 3 0 .i64 (by kernel_rfl) (by kernel_rfl) (by decide)) ?_
                        refine Wk.rPure 2 (some 70) (.int .i64 k0) rfl rfl (by kernel_rfl) (Wk.load1 3 (.tmp 69) rfl (by kernel_rfl) ⟨W4.heap.size, 3, none⟩ (by kernel_rfl) (.int .i64 k0) ((cell_of_row _ _ 3 _ _ _ hb3).trans rfl)) ?_
                        obtain ⟨kz, hkz⟩ : ∃ z : Nat, k0 = ((z : Nat) : Int) := ⟨k0.toNat, by omega⟩
                        refine Wk.rEx 3 (some 71) _ rfl rfl (by kernel_rfl) (Mur.make8 26 5 (.tmp 70) (.tmp 70) rfl Try.underlying26 (by kernel_rfl) kz (by omega) ((show _ = Value.int .i64 k0 by kernel_rfl).trans (congrArg (Value.int .i64) hkz)) ((show _ = Value.int .i64 k0 by kernel_rfl).trans (congrArg (Value.int .i64) hkz))) ?_
                        rintro _ W16 ⟨rfl, hb6, ch14, sz6⟩
                        have zz16 := ch14.size
                        refine Wk.rPure 4 (some 10) (.slice (some ⟨W6.heap.size, 0, none⟩) kz kz) rfl rfl (by kernel_rfl) (by kernel_rfl) ?_
                        refine Wk.rEnd 5 rfl ?_
                        refine Wk.nxt ?_
                        refine Wk.reg ?_
                        refine Wk.rPure 0 (some 72) (.int .i64 gt) rfl rfl (by kernel_rfl) (by kernel_rfl) ?_
                        refine Wk.rPure 1 (some 73) (.int .i64 (gt + 1)) rfl rfl (by kernel_rfl) (Wk.int64 (n := gt + 1) (z := gt + 1) (by omega) (by omega) (by omega) (by kernel_rfl)) ?_
                        refine Wk.rPure 2 (some 5) (.int .i64 (gt + 1)) rfl rfl (by kernel_rfl) (by kernel_rfl) ?_
                        refine Wk.rEnd 3 rfl ?_
                        refine Wk.nxt ?_
                        exact ⟨some ⟨W6.heap.size, 0, none⟩, kz, kz, List.replicate kz 0, gt + 1, by kernel_rfl, (Wk.Chg.step ((Wk.Chg.refl _).more (by simp) : Wk.Chg [] W6 W6) ch14 trivial), (Mur.byt_blk (List.replicate kz 0) List.length_replicate hb6), (by omega), (fun h => by cases h), (by omega), (by omega), (fun q off e hn => by cases e; omega)⟩
                      · refine Wk.rPure 17 (some 66) (.bool false) rfl rfl (by kernel_rfl) (Wk.boolF (b := decide (gt < (2 : Int))) (decide_eq_false (by first | exact hx11 | omega)) (by kernel_rfl)) ?_
                        refine Wk.rPure 18 (some 67) (.bool false) rfl rfl (by kernel_rfl) (by kernel_rfl) ?_
                        refine Wk.rEnd 19 rfl ?_
                        refine Wk.nxt ?_
                        refine wp_cond_false (by kernel_rfl) ?_
                        refine wp_skip ?_
                        refine Wk.nxt ?_
                        have kk26 := Wk.Chg.step HB ch4 trivial
                        have kk27 := Wk.Chg.step kk26 ch5 ⟨.inr (by omega), trivial⟩
                        exact ⟨B, mb, cb, bs, gt, by kernel_rfl, ((Wk.Chg.refl _).more (by simp) : Wk.Chg [] W6 W6), (Mur.byt_chg hb kk27 (fun g off e hl => trivial)), (by omega), hbn, (by omega), (by omega), (fun q off e hn => by have := Mur.byt_lt hb q off e hn; omega)⟩
                    · refine Wk.rPure 13 (some 62) (.bool false) rfl rfl (by kernel_rfl) (Wk.boolF (b := decide (k0 ≤ (1048577 : Int))) (decide_eq_false (by first | exact hx10 | omega)) (by kernel_rfl)) ?_
                      refine Wk.rPure 14 (some 63) (.bool false) rfl rfl (by kernel_rfl) (by kernel_rfl) ?_
                      refine Wk.rPure 15 (some 64) (.bool false) rfl rfl (by kernel_rfl) (by kernel_rfl) ?_
                      refine Wk.rPass 16 (some 65) rfl rfl (by kernel_rfl) ?_
                      refine Wk.rPass 17 (some 66) rfl rfl (by kernel_rfl) ?_
                      refine Wk.rPure 18 (some 67) (.bool false) rfl rfl (by kernel_rfl) (by kernel_rfl) ?_
                      refine Wk.rEnd 19 rfl ?_
                      refine Wk.nxt ?_
                      refine wp_cond_false (by kernel_rfl) ?_
                      refine wp_skip ?_
                      refine Wk.nxt ?_
                      have kk28 := Wk.Chg.step HB ch4 trivial
                      have kk29 := Wk.Chg.step kk28 ch5 ⟨.inr (by omega), trivial⟩
                      exact ⟨B, mb, cb, bs, gt, by kernel_rfl, ((Wk.Chg.refl _).more (by simp) : Wk.Chg [] W6 W6), (Mur.byt_chg hb kk29 (fun g off e hl => trivial)), (by omega), hbn, (by omega), (by omega), (fun q off e hn => by have := Mur.byt_lt hb q off e hn; omega)⟩
                  · refine Wk.rPure 7 (some 56) (.bool false) rfl rfl (by kernel_rfl) (Wk.boolF (b := decide (k0 ≥ (0 : Int))) (decide_eq_false (by first | exact hx9 | omega)) (by kernel_rfl)) ?_
                    refine Wk.rPure 8 (some 57) (.bool false) rfl rfl (by kernel_rfl) (by kernel_rfl) ?_
                    refine Wk.rPure 9 (some 58) (.bool false) rfl rfl (by kernel_rfl) (by kernel_rfl) ?_
                    refine Wk.rPass 10 (some 59) rfl rfl (by kernel_rfl) ?_
                    refine Wk.rPass 11 (some 60) rfl rfl (by kernel_rfl) ?_
                    refine Wk.rPass 12 (some 61) rfl rfl (by kernel_rfl) ?_
                    refine Wk.rPass 13 (some 62) rfl rfl (by kernel_rfl) ?_
                    refine Wk.rPure 14 (some 63) (.bool false) rfl rfl (by kernel_rfl) (by kernel_rfl) ?_
                    refine Wk.rPure 15 (some 64) (.bool false) rfl rfl (by kernel_rfl) (by kernel_rfl) ?_
                    refine Wk.rPass 16 (some 65) rfl rfl (by kernel_rfl) ?_
                    refine Wk.rPass 17 (some 66) rfl rfl (by kernel_rfl) ?_
                    refine Wk.rPure 18 (some 67) (.bool false) rfl rfl (by kernel_rfl) (by kernel_rfl) ?_
                    refine Wk.rEnd 19 rfl ?_
                    refine Wk.nxt ?_
                    refine wp_cond_false (by kernel_rfl) ?_
                    refine wp_skip ?_
                    refine Wk.nxt ?_
                    have kk30 := Wk.Chg.step HB ch4 trivial
                    have kk31 := Wk.Chg.step kk30 ch5 ⟨.inr (by omega), trivial⟩
                    exact ⟨B, mb, cb, bs, gt, by kernel_rfl, ((Wk.Chg.refl _).more (by simp) : Wk.Chg [] W6 W6), (Mur.byt_chg hb kk31 (fun g off e hl => trivial)), (by omega), hbn, (by omega), (by omega), (fun q off e hn => by have := Mur.byt_lt hb q off e hn; omega)⟩
                · rintro aa5 W17 ⟨AI, nI, cI, lI, gtI, hF5, ch15, hbI, hnc, hnI, hbg, hgI, haI⟩
                  have zz17 := ch15.size
                  generalize aa5.tmps = bb5 at hF5
                  subst hF5
                  refine Wk.nxt ?_
                  refine wp_seq ?_
                  refine wp_seq ?_
                  refine Wk.reg ?_
                  refine Wk.rPure 0 (some 74) (.slice AI nI cI) rfl rfl (by kernel_rfl) (by kernel_rfl) ?_
                  refine Wk.rPure 1 (some 75) (.int .i64 ((nI : Nat) : Int)) rfl rfl (by kernel_rfl) (by kernel_rfl) ?_
                  by_cases hx12 : ((nI : Nat) : Int) > (1000 : Int)
                  · refine Wk.rPure 2 (some 76) (.bool true) rfl rfl (by kernel_rfl) (Wk.boolT (b := decide (((nI : Nat) : Int) > (1000 : Int))) (decide_eq_true (by first | exact hx12 | omega)) (by kernel_rfl)) ?_
                    refine Wk.rPure 3 (some 77) (.bool true) rfl rfl (by kernel_rfl) (by kernel_rfl) ?_
                    refine Wk.rPure 4 (some 78) (.pointer (some ⟨W4.heap.size, 0, none⟩)) rfl rfl (by kernel_rfl) (by kernel_rfl) ?_
                    refine Wk.rPure 5 (some 79) (.int .i64 kd) rfl rfl (by kernel_rfl) (Wk.load1 3 (.tmp 78) rfl (by kernel_rfl) ⟨W4.heap.size, 0, none⟩ (by kernel_rfl) (.int .i64 kd) ((cell_of_row _ _ 0 _ _ _ (Wk.Chg.hp ch15 hb3 trivial)).trans rfl)) ?_
                    refine Wk.rPure 6 (some 80) (.bool false) rfl rfl (by kernel_rfl) (Wk.boolF (b := (kd == (1 : Int))) (beq_eq_false_iff_ne.2 (by first | exact hx2 | omega)) (by kernel_rfl)) ?_
                    refine Wk.rPure 7 (some 81) (.bool false) rfl rfl (by kernel_rfl) (by kernel_rfl) ?_
                    refine Wk.rEnd 8 rfl ?_
                    refine Wk.nxt ?_
                    refine wp_cond_false (by kernel_rfl) ?_
                    refine wp_skip ?_
                    refine Wk.nxt ?_
                    refine wp_seq ?_
                    refine Wk.reg ?_
                    refine Wk.rEx 0 (some 82) _ rfl rfl (by kernel_rfl) (Wk.new_ex (.slice (some ⟨W17.heap.size, 0, none⟩) 0 0) #[] 5 (by kernel_rfl)) ?_
                    rintro _ W18 ⟨rfl, hb7, ch16, sz7⟩
                    have zz18 := ch16.size
                    refine Wk.rPure 1 (some 83) (.slice AI nI cI) rfl rfl (by kernel_rfl) (by kernel_rfl) ?_
                    have ow7 := Mur.own8_empty hb7 (Nat.le_refl _)
                    refine Wk.rEx 2 (some 84) _ rfl rfl (by kernel_rfl) (Mur.append8 (.tmp 82) (.tmp 83) 26 5 rfl Try.underlying26 (by kernel_rfl) W17.heap.size (some ⟨W17.heap.size, 0, none⟩) 0 0 ([]) AI nI cI lI (by kernel_rfl) (by kernel_rfl) ow7.own (Mur.byt_chgp hbI ch16 (fun g off e hn hl => trivial)) hnI (by omega) (by omega) nI (by omega) lI rfl) ?_
                    rintro _ W19 ⟨AA2, nn2, rfl, ow8, ch17, ha2⟩
                    have zz19 := ch17.size
                    have hq3 := ow8.nc
                    have hq4 := ow8.cm
                    refine Wk.rPure 3 (some 11) (.slice AA2 nI nn2) rfl rfl (by kernel_rfl) (by kernel_rfl) ?_
                    refine Wk.rEnd 4 rfl ?_
                    refine Wk.nxt ?_
                    refine wp_seq ?_
                    refine Wk.dReg (W1.heap.size :: F) (by kernel_rfl) ?_
                    intro W20 ch18 sz8
                    have zz20 := ch18.size
                    have sS4 : Wk.Chg (W1.heap.size :: F) W20 W20 := (Wk.Chg.refl _).more (by simp)
                    refine Wk.dVal 0 (some 85) (.pointer (some ⟨gd, 0, none⟩)) rfl rfl (by kernel_rfl) (by kernel_rfl) (by kernel_rfl) (fun _ _ _ h => h) (by kernel_rfl) (fun w' hw' => by kernel_rfl) sS4 ?_
                    refine Wk.dVal 1 (some 86) (.pointer (some ⟨W4.heap.size, 1, none⟩)) rfl rfl (by kernel_rfl) (by kernel_rfl) (by kernel_rfl) (fun _ _ _ h => h) (by kernel_rfl) (fun w' hw' => by kernel_rfl) sS4 ?_
                    refine Wk.dVal 2 (some 87) (.int .i64 f) rfl rfl (by kernel_rfl) (by kernel_rfl) (by kernel_rfl) (fun _ _ _ h => h) (by kernel_rfl) (fun w' hw' => (Wk.load1 3 (.tmp 86) rfl (by kernel_rfl) ⟨W4.heap.size, 1, none⟩ (by kernel_rfl) (.int .i64 f) ((cell_of_row _ _ 1 _ _ _ (Wk.Chg.hp hw' (Wk.Chg.hp ch18 (Wk.Chg.hp ch17 (Wk.Chg.hp ch16 (Wk.Chg.hp ch15 hb3 trivial) trivial) (Wk.off_blk (fun gz hgz => by have := ow7.lt gz hgz; omega))) trivial) ⟨by omega, (Mur.off_iff.2 (fun t ht => by have := hM t ht; omega))⟩)).trans rfl))) sS4 ?_
                    refine Wk.dVal 3 (some 88) (.slice AA2 nI nn2) rfl rfl (by kernel_rfl) (by kernel_rfl) (by kernel_rfl) (fun _ _ _ h => h) (by kernel_rfl) (fun w' hw' => by kernel_rfl) sS4 ?_
                    refine Wk.dVal 5 (some 90) (.pointer (some ⟨W1.heap.size, 0, none⟩)) rfl rfl (by kernel_rfl) (by kernel_rfl) (by kernel_rfl) (fun _ _ _ h => h) (by kernel_rfl) (fun w' hw' => by kernel_rfl) sS4 ?_
                    refine Wk.dVal 6 (some 91) (.pointer (some ⟨W4.heap.size, 1, none⟩)) rfl rfl (by kernel_rfl) (by kernel_rfl) (by kernel_rfl) (fun _ _ _ h => h) (by kernel_rfl) (fun w' hw' => by kernel_rfl) sS4 ?_
                    refine Wk.dVal 7 (some 92) (.int .i64 f) rfl rfl (by kernel_rfl) (by kernel_rfl) (by kernel_rfl) (fun _ _ _ h => h) (by kernel_rfl) (fun w' hw' => (Wk.load1 3 (.tmp 91) rfl (by kernel_rfl) ⟨W4.heap.size, 1, none⟩ (by kernel_rfl) (.int .i64 f) ((cell_of_row _ _ 1 _ _ _ (Wk.Chg.hp hw' (Wk.Chg.hp ch18 (Wk.Chg.hp ch17 (Wk.Chg.hp ch16 (Wk.Chg.hp ch15 hb3 trivial) trivial) (Wk.off_blk (fun gz hgz => by have := ow7.lt gz hgz; omega))) trivial) ⟨by omega, (Mur.off_iff.2 (fun t ht => by have := hM t ht; omega))⟩)).trans rfl))) sS4 ?_
                    refine Wk.dVal 8 (some 93) (.slice AI nI cI) rfl rfl (by kernel_rfl) (by kernel_rfl) (by kernel_rfl) (fun _ _ _ h => h) (by kernel_rfl) (fun w' hw' => by kernel_rfl) sS4 ?_
                    refine Wk.dOp 4 (by kernel_rfl) ?_
                    refine Wk.oCall (some 89) 10 [.tmp 85, .tmp 87, .tmp 88] #[23, 3, 26] [.pointer (some ⟨gd, 0, none⟩), .int .i64 f, .slice AA2 nI nn2] rfl rfl (by kernel_rfl) rfl (by kernel_rfl) (by kernel_rfl) ?_
                    have hD15 := Mur.DskF.chg hD ch4 (fun s hs hl => trivial)
                    have hD16 := Mur.DskF.chg hD15 ch5 (fun s hs hl => ⟨by have := hM s hs; omega, trivial⟩)
                    have hD17 := Mur.DskF.chg hD16 ch15 (fun s hs hl => trivial)
                    have hD18 := Mur.DskF.chg hD17 ch16 (fun s hs hl => trivial)
                    have hD19 := Mur.DskF.chg hD18 ch17 (fun s hs hl => Wk.off_blk (fun q hq => by have := ow7.lt q hq; have := hM s hs; omega))
                    have hD20 := Mur.DskF.chg hD19 ch18 (fun s hs hl => trivial)
                    have ow9 := Mur.own8 (Wk.own_chg ow8.own ch18 (fun q e _ _ => trivial))
                    have hR13 := Mur.Ref.chg hR ch4 (fun s hs hl => trivial)
                    have hR14 := Mur.Ref.chg hR13 ch5 (fun s hs hl => ⟨by have := hMR s hs; omega, trivial⟩)
                    have hR15 := Mur.Ref.chg hR14 ch15 (fun s hs hl => trivial)
                    have hR16 := Mur.Ref.chg hR15 ch16 (fun s hs hl => trivial)
                    have hR17 := Mur.Ref.chg hR16 ch17 (fun s hs hl => Wk.off_blk (fun q hq => by have := ow7.lt q hq; have := hMR s hs; omega))
                    have hR18 := Mur.Ref.chg hR17 ch18 (fun s hs hl => trivial)
                    refine (Append_any gd d F f AA2 nI nn2 lI W20 hD20 ow9.byt ow9.nil).mono ?_
                    rintro _ W21 ⟨FF3, rfl, hD21, ch19, no3⟩
                    have hM4 := Mur.DskF.mem hD21
                    have zz21 := ch19.size
                    have hR19 := Mur.Ref.chg hR18 ch19 (fun s hs hl => Mur.Dj.off1 hJ hs)
                    have jj3 := Mur.Dj.step1 hJ no3 hMR (by omega)
                    have sS5 := Wk.Chg.step sS4 ch19 (Mur.newOr_iff.2 (fun t ht => .inl (List.mem_cons_of_mem _ ht)))
                    refine ⟨_, rfl, sS5, ?_⟩
                    refine Wk.dOp 9 (by kernel_rfl) ?_
                    refine Wk.oCall (some 94) 17 [.tmp 90, .tmp 92, .tmp 93] #[42, 3, 26] [.pointer (some ⟨W1.heap.size, 0, none⟩), .int .i64 f, .slice AI nI cI] rfl rfl (by kernel_rfl) rfl (by kernel_rfl) (by kernel_rfl) ?_
                    refine (RAppend_any W1.heap.size d _ f AI nI cI lI W21 ⟨⟨_, _, _, _, _, _, hR19, rfl⟩⟩ hkd.1.2 hkd.2.2 (Mur.byt_chgp (Mur.byt_chgp (Mur.byt_chgp (Mur.byt_chgp hbI ch16 (fun g off e hn hl => trivial)) ch17 (fun g off e hn hl => (Wk.off_blk (fun gz hgz => by have := ow7.lt gz hgz; have := haI g off e hn; omega)))) ch18 (fun g off e hn hl => trivial)) ch19 (fun g off e hn hl => (Mur.off_iff.2 (fun t ht => by have := hM t ht; have := haI g off e hn; omega)))) hnI (by omega)).mono ?_
                    rintro _ W22 ⟨_, rfl, ⟨RA3, rn3, rc3, RA4, rn4, rc4, hR20, rfl⟩, ch20, no4⟩
                    have zz22 := ch20.size
                    have hM5 := Mur.Ref.mem hR20
                    have hD22 := Mur.DskF.chg hD21 ch20 (fun s hs hl => ⟨fun e => jj3 s hs (by rw [e]; exact Mur.Ref.self), trivial⟩)
                    have jj4 := Mur.Dj.step2 jj3 no4 hM4 (by omega)
                    have sS6 := Wk.Chg.step sS5 ch20 ⟨.inl (by simp), trivial⟩
                    refine ⟨_, rfl, sS6, ?_⟩
                    refine Wk.dVal 10 (some 8) (.int .i64 (Mur.Dk.appE d f nI)) rfl rfl (by kernel_rfl) (by kernel_rfl) (by kernel_rfl) (fun _ _ _ h => h) (by kernel_rfl) (fun w' hw' => by kernel_rfl) sS6 ?_
                    refine Wk.dVal 11 (some 9) (.int .i64 (Mur.Dk.appE d f nI)) rfl rfl (by kernel_rfl) (by kernel_rfl) (by kernel_rfl) (fun _ _ _ h => h) (by kernel_rfl) (fun w' hw' => by kernel_rfl) sS6 ?_
                    refine Wk.dEnd (by kernel_rfl) ?_
                    refine Wk.nxt ?_
                    refine wp_seq ?_
                    refine Wk.reg ?_
                    refine Wk.rPure 0 (some 95) (.slice AA2 nI nn2) rfl rfl (by kernel_rfl) (by kernel_rfl) ?_
                    refine Wk.rPure 1 (some 96) (.int .i64 ((nI : Nat) : Int)) rfl rfl (by kernel_rfl) (by kernel_rfl) ?_
                    refine Wk.rPure 2 (some 97) (.int .i64 0) rfl rfl (by kernel_rfl) (by kernel_rfl) ?_
                    refine Wk.rEnd 3 rfl ?_
                    refine Wk.nxt ?_
                    refine wp_block ?_
                    have ow10 := Mur.own8 (Wk.own_chg ow9.own ch19 (fun q e _ _ => (Mur.off_iff.2 (fun t ht => by have := hM t ht; have := ow8.lt q e; omega))))
                    have ow11 := Mur.own8 (Wk.own_chg ow10.own ch20 (fun q e _ _ => ⟨by have := ow8.lt q e; omega, trivial⟩))
                    have kk32 := Wk.Chg.step HB ch4 trivial
                    have kk33 := Wk.Chg.step kk32 ch5 ⟨.inr (by omega), trivial⟩
                    have kk34 := Wk.Chg.step kk33 ch15 trivial
                    have kk35 := Wk.Chg.step kk34 ch16 trivial
                    have kk36 := Wk.Chg.step kk35 ch17 (Wk.newOr_blk (fun g hg => by have := ow7.lt g hg; omega))
                    have kk37 := Wk.Chg.step kk36 ch18 trivial
                    have kk38 := Wk.Chg.step kk37 ch19 (Mur.newOr_iff.2 (fun t ht => .inr (by have := hM t ht; omega)))
                    have kk39 := Wk.Chg.step kk38 ch20 ⟨.inr (by omega), trivial⟩
                    have hinF : ∀ s ∈ FF3, ∀ q, (Value.slice AA2 nI nn2).ownBlock = some q → s ≠ q := fun s hs q hq => by
                      have l1 := ow8.lt q hq
                      rcases Mur.newOr_iff.1 no3 s hs with h1 | h1
                      · have := hM s h1; omega
                      · omega
                    have hinG : ∀ s ∈ W1.heap.size :: (Mur.ablk RA3 ++ Mur.ablk RA4), ∀ q, (Value.slice AA2 nI nn2).ownBlock = some q → s ≠ q := fun s hs q hq => by
                      have l1 := ow8.lt q hq
                      rcases Mur.newOr_iff.1 no4 s hs with h1 | h1
                      · have := hMR s h1; omega
                      · omega
                    refine Wk.loop (fun m_ a wr => ∃ (iw : Nat) (lw : List UInt8), m_ = nI - iw ∧ a = Plays_F3 a.tmps (.pointer (some ⟨gd, 0, none⟩)) (.pointer (some ⟨W1.heap.size, 0, none⟩)) (.int .i64 gtI) (.int .i64 (Mur.Dk.appE d f nI)) (.int .i64 (Mur.Dk.appE d f nI)) (.slice AA2 nI nn2) (.slice (some ⟨g, off, none⟩) n c) (.int .i64 ((n : Nat) : Int)) (.int .i64 ((k : Nat) : Int)) (.int .i64 ((nI : Nat) : Int)) (.int .i64 ((iw : Nat) : Int)) ∧ iw ≤ nI ∧ Mur.Own8 wr W17.heap.size 5 AA2 nI nn2 lw ∧ Wk.Chg (Wk.blk (.slice AA2 nI nn2)) W22 wr) (nI - 0) ?_ ?_
                    · refine ⟨0, lI, rfl, by kernel_rfl, Nat.zero_le _, ow11, (Wk.Chg.refl _).more (by simp)⟩
                    · rintro mm3 aa6 W23 ⟨iw, lw, hmm3, hF6, hiw, hW, hC⟩
                      generalize aa6.tmps = bb6 at hF6
                      subst hF6
                      have hlw := hW.byt.1
                      by_cases hltw : iw < nI
                      · obtain ⟨qw, hqw_, hqwb, hqwl⟩ := Mur.own8_some hW (by omega)
                        subst hqw_
                        refine wp_seq ?_
                        refine Wk.reg ?_
                        refine Wk.rPure 0 (some 98) (.bool true) rfl rfl (by kernel_rfl) (Wk.boolT (b := decide (((iw : Nat) : Int) < ((nI : Nat) : Int))) (decide_eq_true (by omega)) (by kernel_rfl)) ?_
                        refine Wk.rEnd 1 rfl ?_
                        refine Wk.nxt ?_
                        refine wp_seq ?_
                        refine wp_cond_true (by kernel_rfl) ?_
                        refine wp_skip ?_
                        refine Wk.nxt ?_
                        refine wp_seq ?_
                        refine wp_block ?_
                        refine wp_seq ?_
                        refine Wk.reg ?_
                        refine Wk.rPure 0 (some 99) (.int .i64 ((iw : Nat) : Int)) rfl rfl (by kernel_rfl) (by kernel_rfl) ?_
                        refine Wk.rPure 1 (some 12) (.int .i64 ((iw : Nat) : Int)) rfl rfl (by kernel_rfl) (by kernel_rfl) ?_
                        refine Wk.rEnd 2 rfl ?_
                        refine Wk.nxt ?_
                        refine Wk.reg ?_
                        refine Wk.rPure 0 (some 100) (.slice (some ⟨qw, 0, none⟩) nI nn2) rfl rfl (by kernel_rfl) (by kernel_rfl) ?_
                        refine Wk.rPure 1 (some 101) (.int .i64 ((iw : Nat) : Int)) rfl rfl (by kernel_rfl) (by kernel_rfl) ?_
                        refine Wk.rPure 2 (some 102) (.pointer (some ⟨qw, 0 + iw * 1, none⟩)) rfl rfl (by kernel_rfl) (Wk.index_sl 26 5 (.tmp 100) (.tmp 101) rfl Try.underlying26 1 (by kernel_rfl) qw 0 nI nn2 iw .i64 (by kernel_rfl) (by kernel_rfl) (by omega)) ?_
                        refine Wk.rPure 3 (some 103) (.int .u8 (((lw.getD iw 0).toNat : Nat) : Int)) rfl rfl (by kernel_rfl) (Wk.load1 5 (.tmp 102) rfl (by kernel_rfl) ⟨qw, 0 + iw * 1, none⟩ (by kernel_rfl) (.int .u8 (((lw.getD iw 0).toNat : Nat) : Int)) (Mur.byt_cell hW.byt iw hltw)) ?_
                        refine Wk.rPure 4 (some 104) (.int .u8 ((((lw.getD iw 0) + 1).toNat : Nat) : Int)) rfl rfl (by kernel_rfl) (Mur.add8 5 5 (.tmp 103) (.const (.int .u8 1)) rfl (lw.getD iw 0) (by kernel_rfl) (by kernel_rfl)) ?_
                        refine Wk.rPure 5 (some 105) (.pointer (some ⟨qw, 0 + iw * 1, none⟩)) rfl rfl (by kernel_rfl) (Wk.index_sl 26 5 (.tmp 100) (.tmp 101) rfl Try.underlying26 1 (by kernel_rfl) qw 0 nI nn2 iw .i64 (by kernel_rfl) (by kernel_rfl) (by omega)) ?_
                        refine Wk.rExS 6 none _ rfl rfl (by kernel_rfl) (Mur.own_store 5 (.tmp 105) (.tmp 104) rfl (by kernel_rfl) qw iw (by kernel_rfl) ((lw.getD iw 0) + 1) (by kernel_rfl) hW hltw) ?_
                        rintro W24 ⟨ow12, ch21⟩
                        have zz23 := ch21.size
                        refine Wk.rEnd 7 rfl ?_
                        refine Wk.inN ?_
                        refine Wk.nxt ?_
                        refine Wk.reg ?_
                        refine Wk.rPure 0 (some 106) (.int .i64 ((iw + 1 : Nat) : Int)) rfl rfl (by kernel_rfl) (Wk.int64 (n := ((iw : Nat) : Int) + 1) (z := ((iw + 1 : Nat) : Int)) (by omega) (by omega) (by omega) (by kernel_rfl)) ?_
                        refine Wk.rPure 1 (some 97) (.int .i64 ((iw + 1 : Nat) : Int)) rfl rfl (by kernel_rfl) (by kernel_rfl) ?_
                        refine Wk.rEnd 2 rfl ?_
                        refine Wk.nxt ?_
                        refine ⟨_, ?_, iw + 1, lw.set iw ((lw.getD iw 0) + 1), rfl, by kernel_rfl, (by omega), ow12, (Wk.Chg.step hC ch21 ⟨.inl (by simp [Wk.blk, Value.ownBlock]), trivial⟩)⟩
                        · omega
                      · have zz24 := hC.size
                        have hD23 := Mur.DskF.chg hD22 hC (fun s hs hl => Wk.off_blk (fun q hq => hinF s hs q hq))
                        have hR21 := Mur.Ref.chg hR20 hC (fun s hs hl => Wk.off_blk (fun q hq => hinG s hs q hq))
                        refine wp_seq ?_
                        refine Wk.reg ?_
                        refine Wk.rPure 0 (some 98) (.bool false) rfl rfl (by kernel_rfl) (Wk.boolF (b := decide (((iw : Nat) : Int) < ((nI : Nat) : Int))) (decide_eq_false (by omega)) (by kernel_rfl)) ?_
                        refine Wk.rEnd 1 rfl ?_
                        refine Wk.nxt ?_
                        refine wp_seq ?_
                        refine wp_cond_false (by kernel_rfl) ?_
                        refine wp_exit ?_
                        refine Wk.thX ?_
                        refine Wk.thX ?_
                        refine Wk.inX ?_
                        refine Wk.inN ?_
                        refine Wk.nxt ?_
                        have kk40 := Wk.Chg.step kk39 hC (Wk.newOr_blk (fun g hg => by have := ow8.lt g hg; omega))
                        exact ⟨gd, FF3, (Mur.Dk.app d f lI), RA3, rn3, rc3, RA4, rn4, rc4, gtI, Mur.Dk.appE d f nI, by kernel_rfl, hD23, hR21, jj4, (by omega), kk40, (by omega)⟩
                  · refine Wk.rPure 2 (some 76) (.bool false) rfl rfl (by kernel_rfl) (Wk.boolF (b := decide (((nI : Nat) : Int) > (1000 : Int))) (decide_eq_false (by first | exact hx12 | omega)) (by kernel_rfl)) ?_
                    refine Wk.rPure 3 (some 77) (.bool false) rfl rfl (by kernel_rfl) (by kernel_rfl) ?_
                    refine Wk.rPass 4 (some 78) rfl rfl (by kernel_rfl) ?_
                    refine Wk.rPass 5 (some 79) rfl rfl (by kernel_rfl) ?_
                    refine Wk.rPass 6 (some 80) rfl rfl (by kernel_rfl) ?_
                    refine Wk.rPure 7 (some 81) (.bool false) rfl rfl (by kernel_rfl) (by kernel_rfl) ?_
                    refine Wk.rEnd 8 rfl ?_
                    refine Wk.nxt ?_
                    refine wp_cond_false (by kernel_rfl) ?_
                    refine wp_skip ?_
                    refine Wk.nxt ?_
                    refine wp_seq ?_
                    refine Wk.reg ?_
                    refine Wk.rEx 0 (some 82) _ rfl rfl (by kernel_rfl) (Wk.new_ex (.slice (some ⟨W17.heap.size, 0, none⟩) 0 0) #[] 5 (by kernel_rfl)) ?_
                    rintro _ W25 ⟨rfl, hb8, ch22, sz9⟩
                    have zz25 := ch22.size
                    refine Wk.rPure 1 (some 83) (.slice AI nI cI) rfl rfl (by kernel_rfl) (by kernel_rfl) ?_
                    have ow13 := Mur.own8_empty hb8 (Nat.le_refl _)
                    refine Wk.rEx 2 (some 84) _ rfl rfl (by kernel_rfl) (Mur.append8 (.tmp 82) (.tmp 83) 26 5 rfl Try.underlying26 (by kernel_rfl) W17.heap.size (some ⟨W17.heap.size, 0, none⟩) 0 0 ([]) AI nI cI lI (by kernel_rfl) (by kernel_rfl) ow13.own (Mur.byt_chgp hbI ch22 (fun g off e hn hl => trivial)) hnI (by omega) (by omega) nI (by omega) lI rfl) ?_
                    rintro _ W26 ⟨AA3, nn3, rfl, ow14, ch23, ha3⟩
                    have zz26 := ch23.size
                    have hq5 := ow14.nc
                    have hq6 := ow14.cm
                    refine Wk.rPure 3 (some 11) (.slice AA3 nI nn3) rfl rfl (by kernel_rfl) (by kernel_rfl) ?_
                    refine Wk.rEnd 4 rfl ?_
                    refine Wk.nxt ?_
                    refine wp_seq ?_
                    refine Wk.dReg (W1.heap.size :: F) (by kernel_rfl) ?_
                    intro W27 ch24 sz10
                    have zz27 := ch24.size
                    have sS7 : Wk.Chg (W1.heap.size :: F) W27 W27 := (Wk.Chg.refl _).more (by simp)
                    refine Wk.dVal 0 (some 85) (.pointer (some ⟨gd, 0, none⟩)) rfl rfl (by kernel_rfl) (by kernel_rfl) (by kernel_rfl) (fun _ _ _ h => h) (by kernel_rfl) (fun w' hw' => by kernel_rfl) sS7 ?_
                    refine Wk.dVal 1 (some 86) (.pointer (some ⟨W4.heap.size, 1, none⟩)) rfl rfl (by kernel_rfl) (by kernel_rfl) (by kernel_rfl) (fun _ _ _ h => h) (by kernel_rfl) (fun w' hw' => by kernel_rfl) sS7 ?_
                    refine Wk.dVal 2 (some 87) (.int .i64 f) rfl rfl (by kernel_rfl) (by kernel_rfl) (by kernel_rfl) (fun _ _ _ h => h) (by kernel_rfl) (fun w' hw' => (Wk.load1 3 (.tmp 86) rfl (by kernel_rfl) ⟨W4.heap.size, 1, none⟩ (by kernel_rfl) (.int .i64 f) ((cell_of_row _ _ 1 _ _ _ (Wk.Chg.hp hw' (Wk.Chg.hp ch24 (Wk.Chg.hp ch23 (Wk.Chg.hp ch22 (Wk.Chg.hp ch15 hb3 trivial) trivial) (Wk.off_blk (fun gz hgz => by have := ow13.lt gz hgz; omega))) trivial) ⟨by omega, (Mur.off_iff.2 (fun t ht => by have := hM t ht; omega))⟩)).trans rfl))) sS7 ?_
                    refine Wk.dVal 3 (some 88) (.slice AA3 nI nn3) rfl rfl (by kernel_rfl) (by kernel_rfl) (by kernel_rfl) (fun _ _ _ h => h) (by kernel_rfl) (fun w' hw' => by kernel_rfl) sS7 ?_
                    refine Wk.dVal 5 (some 90) (.pointer (some ⟨W1.heap.size, 0, none⟩)) rfl rfl (by kernel_rfl) (by kernel_rfl) (by kernel_rfl) (fun _ _ _ h => h) (by kernel_rfl) (fun w' hw' => by kernel_rfl) sS7 ?_
                    refine Wk.dVal 6 (some 91) (.pointer (some ⟨W4.heap.size, 1, none⟩)) rfl rfl (by kernel_rfl) (by kernel_rfl) (by kernel_rfl) (fun _ _ _ h => h) (by kernel_rfl) (fun w' hw' => by kernel_rfl) sS7 ?_
                    refine Wk.dVal 7 (some 92) (.int .i64 f) rfl rfl (by kernel_rfl) (by kernel_rfl) (by kernel_rfl) (fun _ _ _ h => h) (by kernel_rfl) (fun w' hw' => (Wk.load1 3 (.tmp 91) rfl (by kernel_rfl) ⟨W4.heap.size, 1, none⟩ (by kernel_rfl) (.int .i64 f) ((cell_of_row _ _ 1 _ _ _ (Wk.Chg.hp hw' (Wk.Chg.hp ch24 (Wk.Chg.hp ch23 (Wk.Chg.hp ch22 (Wk.Chg.hp ch15 hb3 trivial) trivial) (Wk.off_blk (fun gz hgz => by have := ow13.lt gz hgz; omega))) trivial) ⟨by omega, (Mur.off_iff.2 (fun t ht => by have := hM t ht; omega))⟩)).trans rfl))) sS7 ?_
                    refine Wk.dVal 8 (some 93) (.slice AI nI cI) rfl rfl (by kernel_rfl) (by kernel_rfl) (by kernel_rfl) (fun _ _ _ h => h) (by kernel_rfl) (fun w' hw' => by kernel_rfl) sS7 ?_
                    refine Wk.dOp 4 (by kernel_rfl) ?_
                    refine Wk.oCall (some 89) 10 [.tmp 85, .tmp 87, .tmp 88] #[23, 3, 26] [.pointer (some ⟨gd, 0, none⟩), .int .i64 f, .slice AA3 nI nn3] rfl rfl (by kernel_rfl) rfl (by kernel_rfl) (by kernel_rfl) ?_
                    have hD24 := Mur.DskF.chg hD ch4 (fun s hs hl => trivial)
                    have hD25 := Mur.DskF.chg hD24 ch5 (fun s hs hl => ⟨by have := hM s hs; omega, trivial⟩)
                    have hD26 := Mur.DskF.chg hD25 ch15 (fun s hs hl => trivial)
                    have hD27 := Mur.DskF.chg hD26 ch22 (fun s hs hl => trivial)
                    have hD28 := Mur.DskF.chg hD27 ch23 (fun s hs hl => Wk.off_blk (fun q hq => by have := ow13.lt q hq; have := hM s hs; omega))
                    have hD29 := Mur.DskF.chg hD28 ch24 (fun s hs hl => trivial)
                    have ow15 := Mur.own8 (Wk.own_chg ow14.own ch24 (fun q e _ _ => trivial))
                    have hR22 := Mur.Ref.chg hR ch4 (fun s hs hl => trivial)
                    have hR23 := Mur.Ref.chg hR22 ch5 (fun s hs hl => ⟨by have := hMR s hs; omega, trivial⟩)
                    have hR24 := Mur.Ref.chg hR23 ch15 (fun s hs hl => trivial)
                    have hR25 := Mur.Ref.chg hR24 ch22 (fun s hs hl => trivial)
                    have hR26 := Mur.Ref.chg hR25 ch23 (fun s hs hl => Wk.off_blk (fun q hq => by have := ow13.lt q hq; have := hMR s hs; omega))
                    have hR27 := Mur.Ref.chg hR26 ch24 (fun s hs hl => trivial)
                    refine (Append_any gd d F f AA3 nI nn3 lI W27 hD29 ow15.byt ow15.nil).mono ?_
                    rintro _ W28 ⟨FF4, rfl, hD30, ch25, no5⟩
                    have hM6 := Mur.DskF.mem hD30
                    have zz28 := ch25.size
                    have hR28 := Mur.Ref.chg hR27 ch25 (fun s hs hl => Mur.Dj.off1 hJ hs)
                    have jj5 := Mur.Dj.step1 hJ no5 hMR (by omega)
                    have sS8 := Wk.Chg.step sS7 ch25 (Mur.newOr_iff.2 (fun t ht => .inl (List.mem_cons_of_mem _ ht)))
                    refine ⟨_, rfl, sS8, ?_⟩
                    refine Wk.dOp 9 (by kernel_rfl) ?_
                    refine Wk.oCall (some 94) 17 [.tmp 90, .tmp 92, .tmp 93] #[42, 3, 26] [.pointer (some ⟨W1.heap.size, 0, none⟩), .int .i64 f, .slice AI nI cI] rfl rfl (by kernel_rfl) rfl (by kernel_rfl) (by kernel_rfl) ?_
                    refine (RAppend_any W1.heap.size d _ f AI nI cI lI W28 ⟨⟨_, _, _, _, _, _, hR28, rfl⟩⟩ hkd.1.2 hkd.2.2 (Mur.byt_chgp (Mur.byt_chgp (Mur.byt_chgp (Mur.byt_chgp hbI ch22 (fun g off e hn hl => trivial)) ch23 (fun g off e hn hl => (Wk.off_blk (fun gz hgz => by have := ow13.lt gz hgz; have := haI g off e hn; omega)))) ch24 (fun g off e hn hl => trivial)) ch25 (fun g off e hn hl => (Mur.off_iff.2 (fun t ht => by have := hM t ht; have := haI g off e hn; omega)))) hnI (by omega)).mono ?_
                    rintro _ W29 ⟨_, rfl, ⟨RA5, rn5, rc5, RA6, rn6, rc6, hR29, rfl⟩, ch26, no6⟩
                    have zz29 := ch26.size
                    have hM7 := Mur.Ref.mem hR29
                    have hD31 := Mur.DskF.chg hD30 ch26 (fun s hs hl => ⟨fun e => jj5 s hs (by rw [e]; exact Mur.Ref.self), trivial⟩)
                    have jj6 := Mur.Dj.step2 jj5 no6 hM6 (by omega)
                    have sS9 := Wk.Chg.step sS8 ch26 ⟨.inl (by simp), trivial⟩
                    refine ⟨_, rfl, sS9, ?_⟩
                    refine Wk.dVal 10 (some 8) (.int .i64 (Mur.Dk.appE d f nI)) rfl rfl (by kernel_rfl) (by kernel_rfl) (by kernel_rfl) (fun _ _ _ h => h) (by kernel_rfl) (fun w' hw' => by kernel_rfl) sS9 ?_
                    refine Wk.dVal 11 (some 9) (.int .i64 (Mur.Dk.appE d f nI)) rfl rfl (by kernel_rfl) (by kernel_rfl) (by kernel_rfl) (fun _ _ _ h => h) (by kernel_rfl) (fun w' hw' => by kernel_rfl) sS9 ?_
                    refine Wk.dEnd (by kernel_rfl) ?_
                    refine Wk.nxt ?_
                    refine wp_seq ?_
                    refine Wk.reg ?_
                    refine Wk.rPure 0 (some 95) (.slice AA3 nI nn3) rfl rfl (by kernel_rfl) (by kernel_rfl) ?_
                    refine Wk.rPure 1 (some 96) (.int .i64 ((nI : Nat) : Int)) rfl rfl (by kernel_rfl) (by kernel_rfl) ?_
                    refine Wk.rPure 2 (some 97) (.int .i64 0) rfl rfl (by kernel_rfl) (by kernel_rfl) ?_
                    refine Wk.rEnd 3 rfl ?_
                    refine Wk.nxt ?_
                    refine wp_block ?_
                    have ow16 := Mur.own8 (Wk.own_chg ow15.own ch25 (fun q e _ _ => (Mur.off_iff.2 (fun t ht => by have := hM t ht; have := ow14.lt q e; omega))))
                    have ow17 := Mur.own8 (Wk.own_chg ow16.own ch26 (fun q e _ _ => ⟨by have := ow14.lt q e; omega, trivial⟩))
                    have kk41 := Wk.Chg.step HB ch4 trivial
                    have kk42 := Wk.Chg.step kk41 ch5 ⟨.inr (by omega), trivial⟩
                    have kk43 := Wk.Chg.step kk42 ch15 trivial
                    have kk44 := Wk.Chg.step kk43 ch22 trivial
                    have kk45 := Wk.Chg.step kk44 ch23 (Wk.newOr_blk (fun g hg => by have := ow13.lt g hg; omega))
                    have kk46 := Wk.Chg.step kk45 ch24 trivial
                    have kk47 := Wk.Chg.step kk46 ch25 (Mur.newOr_iff.2 (fun t ht => .inr (by have := hM t ht; omega)))
                    have kk48 := Wk.Chg.step kk47 ch26 ⟨.inr (by omega), trivial⟩
                    have hinF : ∀ s ∈ FF4, ∀ q, (Value.slice AA3 nI nn3).ownBlock = some q → s ≠ q := fun s hs q hq => by
                      have l1 := ow14.lt q hq
                      rcases Mur.newOr_iff.1 no5 s hs with h1 | h1
                      · have := hM s h1; omega
                      · omega
                    have hinG : ∀ s ∈ W1.heap.size :: (Mur.ablk RA5 ++ Mur.ablk RA6), ∀ q, (Value.slice AA3 nI nn3).ownBlock = some q → s ≠ q := fun s hs q hq => by
                      have l1 := ow14.lt q hq
                      rcases Mur.newOr_iff.1 no6 s hs with h1 | h1
                      · have := hMR s h1; omega
                      · omega
                    refine Wk.loop (fun m_ a wr => ∃ (iw : Nat) (lw : List UInt8), m_ = nI - iw ∧ a = Plays_F4 a.tmps (.pointer (some ⟨gd, 0, none⟩)) (.pointer (some ⟨W1.heap.size, 0, none⟩)) (.int .i64 gtI) (.int .i64 (Mur.Dk.appE d f nI)) (.int .i64 (Mur.Dk.appE d f nI)) (.slice AA3 nI nn3) (.slice (some ⟨g, off, none⟩) n c) (.int .i64 ((n : Nat) : Int)) (.int .i64 ((k : Nat) : Int)) (.int .i64 ((nI : Nat) : Int)) (.int .i64 ((iw : Nat) : Int)) ∧ iw ≤ nI ∧ Mur.Own8 wr W17.heap.size 5 AA3 nI nn3 lw ∧ Wk.Chg (Wk.blk (.slice AA3 nI nn3)) W29 wr) (nI - 0) ?_ ?_
                    · refine ⟨0, lI, rfl, by kernel_rfl, Nat.zero_le _, ow17, (Wk.Chg.refl _).more (by simp)⟩
                    · rintro mm4 aa7 W30 ⟨iw, lw, hmm4, hF7, hiw, hW, hC⟩
                      generalize aa7.tmps = bb7 at hF7
                      subst hF7
                      have hlw := hW.byt.1
                      by_cases hltw : iw < nI
                      · obtain ⟨qw, hqw_, hqwb, hqwl⟩ := Mur.own8_some hW (by omega)
                        subst hqw_
                        refine wp_seq ?_
                        refine Wk.reg ?_
                        refine Wk.rPure 0 (some 98) (.bool true) rfl rfl (by kernel_rfl) (Wk.boolT (b := decide (((iw : Nat) : Int) < ((nI : Nat) : Int))) (decide_eq_true (by omega)) (by kernel_rfl)) ?_
                        refine Wk.rEnd 1 rfl ?_
                        refine Wk.nxt ?_
                        refine wp_seq ?_
                        refine wp_cond_true (by kernel_rfl) ?_
                        refine wp_skip ?_
                        refine Wk.nxt ?_
                        refine wp_seq ?_
                        refine wp_block ?_
                        refine wp_seq ?_
                        refine Wk.reg ?_
                        refine Wk.rPure 0 (some 99) (.int .i64 ((iw : Nat) : Int)) rfl rfl (by kernel_rfl) (by kernel_rfl) ?_
                        refine Wk.rPure 1 (some 12) (.int .i64 ((iw : Nat) : Int)) rfl rfl (by kernel_rfl) (by kernel_rfl) ?_
                        refine Wk.rEnd 2 rfl ?_
                        refine Wk.nxt ?_
                        refine Wk.reg ?_
                        refine Wk.rPure 0 (some 100) (.slice (some ⟨qw, 0, none⟩) nI nn3) rfl rfl (by kernel_rfl) (by kernel_rfl) ?_
                        refine Wk.rPure 1 (some 101) (.int .i64 ((iw : Nat) : Int)) rfl rfl (by kernel_rfl) (by kernel_rfl) ?_
                        refine Wk.rPure 2 (some 102) (.pointer (some ⟨qw, 0 + iw * 1, none⟩)) rfl rfl (by kernel_rfl) (Wk.index_sl 26 5 (.tmp 100) (.tmp 101) rfl Try.underlying26 1 (by kernel_rfl) qw 0 nI nn3 iw .i64 (by kernel_rfl) (by kernel_rfl) (by omega)) ?_
                        refine Wk.rPure 3 (some 103) (.int .u8 (((lw.getD iw 0).toNat : Nat) : Int)) rfl rfl (by kernel_rfl) (Wk.load1 5 (.tmp 102) rfl (by kernel_rfl) ⟨qw, 0 + iw * 1, none⟩ (by kernel_rfl) (.int .u8 (((lw.getD iw 0).toNat : Nat) : Int)) (Mur.byt_cell hW.byt iw hltw)) ?_
                        refine Wk.rPure 4 (some 104) (.int .u8 ((((lw.getD iw 0) + 1).toNat : Nat) : Int)) rfl rfl (by kernel_rfl) (Mur.add8 5 5 (.tmp 103) (.const (.int .u8 1)) rfl (lw.getD iw 0) (by kernel_rfl) (by kernel_rfl)) ?_
                        refine Wk.rPure 5 (some 105) (.pointer (some ⟨qw, 0 + iw * 1, none⟩)) rfl rfl (by kernel_rfl) (Wk.index_sl 26 5 (.tmp 100) (.tmp 101) rfl Try.underlying26 1 (by kernel_rfl) qw 0 nI nn3 iw .i64 (by kernel_rfl) (by kernel_rfl) (by omega)) ?_
                        refine Wk.rExS 6 none _ rfl rfl (by kernel_rfl) (Mur.own_store 5 (.tmp 105) (.tmp 104) rfl (by kernel_rfl) qw iw (by kernel_rfl) ((lw.getD iw 0) + 1) (by kernel_rfl) hW hltw) ?_
                        rintro W31 ⟨ow18, ch27⟩
                        have zz30 := ch27.size
                        refine Wk.rEnd 7 rfl ?_
                        refine Wk.inN ?_
                        refine Wk.nxt ?_
                        refine Wk.reg ?_
                        refine Wk.rPure 0 (some 106) (.int .i64 ((iw + 1 : Nat) : Int)) rfl rfl (by kernel_rfl) (Wk.int64 (n := ((iw : Nat) : Int) + 1) (z := ((iw + 1 : Nat) : Int)) (by omega) (by omega) (by omega) (by kernel_rfl)) ?_
                        refine Wk.rPure 1 (some 97) (.int .i64 ((iw + 1 : Nat) : Int)) rfl rfl (by kernel_rfl) (by kernel_rfl) ?_
                        refine Wk.rEnd 2 rfl ?_
                        refine Wk.nxt ?_
                        refine ⟨_, ?_, iw + 1, lw.set iw ((lw.getD iw 0) + 1), rfl, by kernel_rfl, (by omega), ow18, (Wk.Chg.step hC ch27 ⟨.inl (by simp [Wk.blk, Value.ownBlock]), trivial⟩)⟩
                        · omega
                      · have zz31 := hC.size
                        have hD32 := Mur.DskF.chg hD31 hC (fun s hs hl => Wk.off_blk (fun q hq => hinF s hs q hq))
                        have hR30 := Mur.Ref.chg hR29 hC (fun s hs hl => Wk.off_blk (fun q hq => hinG s hs q hq))
                        refine wp_seq ?_
                        refine Wk.reg ?_
                        refine Wk.rPure 0 (some 98) (.bool false) rfl rfl (by kernel_rfl) (Wk.boolF (b := decide (((iw : Nat) : Int) < ((nI : Nat) : Int))) (decide_eq_false (by omega)) (by kernel_rfl)) ?_
                        refine Wk.rEnd 1 rfl ?_
                        refine Wk.nxt ?_
                        refine wp_seq ?_
                        refine wp_cond_false (by kernel_rfl) ?_
                        refine wp_exit ?_
                        refine Wk.thX ?_
                        refine Wk.thX ?_
                        refine Wk.inX ?_
                        refine Wk.inN ?_
                        refine Wk.nxt ?_
                        have kk49 := Wk.Chg.step kk48 hC (Wk.newOr_blk (fun g hg => by have := ow14.lt g hg; omega))
                        exact ⟨gd, FF4, (Mur.Dk.app d f lI), RA5, rn5, rc5, RA6, rn6, rc6, gtI, Mur.Dk.appE d f nI, by kernel_rfl, hD32, hR30, jj6, (by omega), kk49, (by omega)⟩
              · refine Wk.rPure 0 (some 46) (.bool false) rfl rfl (by kernel_rfl) (Wk.boolF (b := (kd == (6 : Int))) (beq_eq_false_iff_ne.2 (by first | exact hx8 | omega)) (by kernel_rfl)) ?_
                refine Wk.rPure 1 (some 44) (.bool false) rfl rfl (by kernel_rfl) (by kernel_rfl) ?_
                refine Wk.rEnd 2 rfl ?_
                refine Wk.nxt ?_
                refine wp_cond_false (by kernel_rfl) ?_
                refine wp_seq ?_
                refine Wk.reg ?_
                by_cases hx13 : kd = (2 : Int)
                · refine Wk.rPure 0 (some 108) (.bool true) rfl rfl (by kernel_rfl) (Wk.boolT (b := (kd == (2 : Int))) (beq_iff_eq.2 (by first | exact hx13 | omega)) (by kernel_rfl)) ?_
                  refine Wk.rPure 1 (some 107) (.bool true) rfl rfl (by kernel_rfl) (by kernel_rfl) ?_
                  refine Wk.rEnd 2 rfl ?_
                  refine Wk.nxt ?_
                  refine wp_cond_true (by kernel_rfl) ?_
                  refine wp_seq ?_
                  refine Wk.reg ?_
                  by_cases hfs : hasF f
                  · rcases hfs with rfl | rfl
                    · obtain rfl : e9 = 0 := he9.trans (by decide)
                      refine Wk.rPure 0 (some 109) (.pointer (some ⟨gd, 0, none⟩)) rfl rfl (by kernel_rfl) (by kernel_rfl) ?_
                      refine Wk.rPure 1 (some 110) (.pointer (some ⟨W4.heap.size, 1, none⟩)) rfl rfl (by kernel_rfl) (by kernel_rfl) ?_
                      refine Wk.rPure 2 (some 111) (.int .i64 0) rfl rfl (by kernel_rfl) (Wk.load1 3 (.tmp 110) rfl (by kernel_rfl) ⟨W4.heap.size, 1, none⟩ (by kernel_rfl) (.int .i64 0) ((cell_of_row _ _ 1 _ _ _ hb3).trans rfl)) ?_
                      refine Wk.rCall 3 (some 112) 11 [.tmp 109, .tmp 111] #[23, 3] [.pointer (some ⟨gd, 0, none⟩), .int .i64 0] rfl rfl (by kernel_rfl) rfl (by kernel_rfl) (by kernel_rfl) ?_
                      have hD33 := Mur.DskF.chg hD ch4 (fun s hs hl => trivial)
                      have hD34 := Mur.DskF.chg hD33 ch5 (fun s hs hl => ⟨by have := hM s hs; omega, trivial⟩)
                      have hR31 := Mur.Ref.chg hR ch4 (fun s hs hl => trivial)
                      have hR32 := Mur.Ref.chg hR31 ch5 (fun s hs hl => ⟨by have := hMR s hs; omega, trivial⟩)
                      refine (Sync_any gd d F 0 W6 hD34).mono ?_
                      rw [show fE 0 = 0 from by decide]
                      rintro _ W32 ⟨FF5, rfl, hD35, ch28, no7⟩
                      have hM8 := Mur.DskF.mem hD35
                      have zz32 := ch28.size
                      have hR33 := Mur.Ref.chg hR32 ch28 (fun s hs hl => Mur.Dj.off1 hJ hs)
                      have jj7 := Mur.Dj.step1 hJ no7 hMR (by omega)
                      refine ⟨_, rfl, ?_⟩
                      refine Wk.rPure 4 (some 8) (.int .i64 0) rfl rfl (by kernel_rfl) (by kernel_rfl) ?_
                      refine Wk.rEnd 5 rfl ?_
                      refine Wk.nxt ?_
                      refine wp_seq ?_
                      refine Wk.reg ?_
                      have hRp1 := hR33.hp
                      refine Wk.rPure 0 (some 113) (.int .i64 0) rfl rfl (by kernel_rfl) (by kernel_rfl) ?_
                      refine Wk.rPure 1 (some 114) (.bool true) rfl rfl (by kernel_rfl) (Wk.boolT (b := ((0 : Int) == (0 : Int))) (beq_iff_eq.2 (by decide)) (by kernel_rfl)) ?_
                      refine Wk.rEnd 2 rfl ?_
                      refine Wk.nxt ?_
                      refine wp_cond_true (by kernel_rfl) ?_
                      refine Wk.dReg ([W1.heap.size]) (by kernel_rfl) ?_
                      intro W33 ch29 sz11
                      have zz33 := ch29.size
                      have sS10 : Wk.Chg ([W1.heap.size]) W33 W33 := (Wk.Chg.refl _).more (by simp)
                      refine Wk.dVal 0 (some 115) (.pointer (some ⟨W1.heap.size, 0, none⟩)) rfl rfl (by kernel_rfl) (by kernel_rfl) (by kernel_rfl) (fun _ _ _ h => h) (by kernel_rfl) (fun w' hw' => by kernel_rfl) sS10 ?_
                      refine Wk.dVal 1 (some 116) (.pointer (some ⟨W4.heap.size, 1, none⟩)) rfl rfl (by kernel_rfl) (by kernel_rfl) (by kernel_rfl) (fun _ _ _ h => h) (by kernel_rfl) (fun w' hw' => by kernel_rfl) sS10 ?_
                      refine Wk.dVal 2 (some 117) (.int .i64 0) rfl rfl (by kernel_rfl) (by kernel_rfl) (by kernel_rfl) (fun _ _ _ h => h) (by kernel_rfl) (fun w' hw' => (Wk.load1 3 (.tmp 116) rfl (by kernel_rfl) ⟨W4.heap.size, 1, none⟩ (by kernel_rfl) (.int .i64 0) ((cell_of_row _ _ 1 _ _ _ (Wk.Chg.hp hw' (Wk.Chg.hp ch29 (Wk.Chg.hp ch28 hb3 (Mur.off_iff.2 (fun t ht => by have := hM t ht; omega))) trivial) ⟨by omega, trivial⟩)).trans rfl))) sS10 ?_
                      refine Wk.dVal 3 (some 118) (.pointer (some ⟨W1.heap.size, 0, none⟩)) rfl rfl (by kernel_rfl) (by kernel_rfl) (by kernel_rfl) (fun _ _ _ h => h) (by kernel_rfl) (fun w' hw' => by kernel_rfl) sS10 ?_
                      refine Wk.dVal 4 (some 119) (.pointer (some ⟨W4.heap.size, 1, none⟩)) rfl rfl (by kernel_rfl) (by kernel_rfl) (by kernel_rfl) (fun _ _ _ h => h) (by kernel_rfl) (fun w' hw' => by kernel_rfl) sS10 ?_
                      refine Wk.dVal 5 (some 120) (.int .i64 0) rfl rfl (by kernel_rfl) (by kernel_rfl) (by kernel_rfl) (fun _ _ _ h => h) (by kernel_rfl) (fun w' hw' => (Wk.load1 3 (.tmp 119) rfl (by kernel_rfl) ⟨W4.heap.size, 1, none⟩ (by kernel_rfl) (.int .i64 0) ((cell_of_row _ _ 1 _ _ _ (Wk.Chg.hp hw' (Wk.Chg.hp ch29 (Wk.Chg.hp ch28 hb3 (Mur.off_iff.2 (fun t ht => by have := hM t ht; omega))) trivial) ⟨by omega, trivial⟩)).trans rfl))) sS10 ?_
                      refine Wk.dVal 6 (some 121) (.pointer (some ⟨W1.heap.size, 0, none⟩)) rfl rfl (by kernel_rfl) (by kernel_rfl) (by kernel_rfl) (fun _ _ _ h => h) (by kernel_rfl) (fun w' hw' => by kernel_rfl) sS10 ?_
                      refine Wk.dVal 7 (some 122) (.pointer (some ⟨W1.heap.size, 0, none⟩)) rfl rfl (by kernel_rfl) (by kernel_rfl) (by kernel_rfl) (fun _ _ _ h => h) (by kernel_rfl) (fun w' hw' => by kernel_rfl) sS10 ?_
                      refine Wk.dVal 8 (some 123) (.pointer (some ⟨W1.heap.size, 0, none⟩)) rfl rfl (by kernel_rfl) (by kernel_rfl) (by kernel_rfl) (fun _ _ _ h => h) (by kernel_rfl) (fun w' hw' => (Wk.index_arr 43 26 (.tmp 122) (.tmp 120) rfl 2 Try.underlying43 1 (by kernel_rfl) W1.heap.size 0 0 .i64 (by kernel_rfl) (by kernel_rfl) (by decide))) sS10 ?_
                      refine Wk.dVal 11 (some 126) (.pointer (some ⟨W1.heap.size, 0, none⟩)) rfl rfl (by kernel_rfl) (by kernel_rfl) (by kernel_rfl) (fun _ _ _ h => h) (by kernel_rfl) (fun w' hw' => by kernel_rfl) sS10 ?_
                      refine Wk.dVal 12 (some 127) (.pointer (some ⟨W1.heap.size, 2, none⟩)) rfl rfl (by kernel_rfl) (by kernel_rfl) (by kernel_rfl) (fun _ _ _ h => h) (by kernel_rfl) (fun w' hw' => by kernel_rfl) sS10 ?_
                      refine Wk.dOp 9 (by kernel_rfl) ?_
                      refine Wk.oVal (some 124) (.slice A0 n0 c0) rfl rfl (by kernel_rfl) (Wk.load1 26 (.tmp 123) rfl (by kernel_rfl) ⟨W1.heap.size, 0, none⟩ (by kernel_rfl) (.slice A0 n0 c0) ((cell_of_row _ _ 0 _ _ _ (Wk.Chg.hp ch29 hRp1 trivial)).trans rfl)) ?_
                      refine ⟨sS10, ?_⟩
                      refine Wk.dVal 10 (some 125) (.int .i64 ((n0 : Nat) : Int)) rfl rfl (by kernel_rfl) (by kernel_rfl) (by kernel_rfl) (fun _ _ _ h => h) (by kernel_rfl) (fun w' hw' => by kernel_rfl) sS10 ?_
                      refine Wk.dVal 13 (some 128) (.pointer (some ⟨W1.heap.size, 2, none⟩)) rfl rfl (by kernel_rfl) (by kernel_rfl) (by kernel_rfl) (fun _ _ _ h => h) (by kernel_rfl) (fun w' hw' => (Wk.index_arr 27 3 (.tmp 127) (.tmp 117) rfl 2 Try.underlying27 1 (by kernel_rfl) W1.heap.size 2 0 .i64 (by kernel_rfl) (by kernel_rfl) (by decide))) sS10 ?_
                      refine Wk.dOp 14 (by kernel_rfl) ?_
                      refine Wk.oExS none _ rfl rfl (by kernel_rfl) (Wk.store1 3 (.tmp 128) (.tmp 125) rfl (by kernel_rfl) W1.heap.size 2 (by kernel_rfl) (.int .i64 ((n0 : Nat) : Int)) (by kernel_rfl) rfl 45 #[.slice A0 n0 c0, .slice A1 n1 c1, .int .i64 ((d.x.n : Nat) : Int), .int .i64 ((d.y.n : Nat) : Int)] (Wk.Chg.hp ch29 hRp1 trivial) (by simp)) ?_
                      rintro W34 ⟨hb9, ch30⟩
                      replace hb9 : W34.heap[W1.heap.size]? = some (.cells #[.slice A0 n0 c0, .slice A1 n1 c1, .int .i64 ((n0 : Nat) : Int), .int .i64 ((d.y.n : Nat) : Int)] 45 (0, 0)) := hb9
                      have zz34 := ch30.size
                      have sS11 := Wk.Chg.step sS10 ch30 ⟨.inl (by simp), trivial⟩
                      refine ⟨sS11, ?_⟩
                      refine Wk.dEnd (by kernel_rfl) ?_
                      refine Wk.inN ?_
                      refine Wk.nxt ?_
                      have kk50 : Wk.Chg [W1.heap.size] W32 W33 := Wk.Chg.step ((Wk.Chg.refl _).more (by simp)) ch29 trivial
                      have kk51 := Wk.Chg.step kk50 ch30 ⟨.inl (by simp), trivial⟩
                      have hR34 : Mur.Ref 5 45 W34 W1.heap.size (Mur.Dk.sync d 0) A0 n0 c0 A1 n1 c1 := Mur.Ref.re hR33 kk51 (x := ⟨d.x.b, d.x.b.length⟩) (y := ⟨d.y.b, d.y.n⟩) rfl rfl (by have hbl_ := hR33.b0.1; rw [hbl_]; exact hb9)
                      have hM9 := Mur.Ref.mem hR34
                      have hD36 := Mur.DskF.chg hD35 kk51 (fun s hs hl => ⟨fun e => jj7 s hs (by rw [e]; exact Mur.Ref.self), trivial⟩)
                      have jj8 : Mur.Dj FF5 (W1.heap.size :: (Mur.ablk A0 ++ Mur.ablk A1)) := fun s hs hg => jj7 s hs (by simp [Mur.ablk] at hg ⊢; first | exact hg | (rcases hg with hg | hg <;> simp [hg]))
                      have kk52 := Wk.Chg.step HB ch4 trivial
                      have kk53 := Wk.Chg.step kk52 ch5 ⟨.inr (by omega), trivial⟩
                      have kk54 := Wk.Chg.step kk53 ch28 (Mur.newOr_iff.2 (fun t ht => .inr (by have := hM t ht; omega)))
                      have kk55 := Wk.Chg.step kk54 ch29 trivial
                      have kk56 := Wk.Chg.step kk55 ch30 ⟨.inr (by omega), trivial⟩
                      exact ⟨gd, FF5, (Mur.Dk.sync d 0), A0, n0, c0, A1, n1, c1, gt, 0, by kernel_rfl, hD36, hR34, jj8, (by omega), kk56, (by omega)⟩
                    · obtain rfl : e9 = 0 := he9.trans (by decide)
                      refine Wk.rPure 0 (some 109) (.pointer (some ⟨gd, 0, none⟩)) rfl rfl (by kernel_rfl) (by kernel_rfl) ?_
                      refine Wk.rPure 1 (some 110) (.pointer (some ⟨W4.heap.size, 1, none⟩)) rfl rfl (by kernel_rfl) (by kernel_rfl) ?_
                      refine Wk.rPure 2 (some 111) (.int .i64 1) rfl rfl (by kernel_rfl) (Wk.load1 3 (.tmp 110) rfl (by kernel_rfl) ⟨W4.heap.size, 1, none⟩ (by kernel_rfl) (.int .i64 1) ((cell_of_row _ _ 1 _ _ _ hb3).trans rfl)) ?_
                      refine Wk.rCall 3 (some 112) 11 [.tmp 109, .tmp 111] #[23, 3] [.pointer (some ⟨gd, 0, none⟩), .int .i64 1] rfl rfl (by kernel_rfl) rfl (by kernel_rfl) (by kernel_rfl) ?_
                      have hD37 := Mur.DskF.chg hD ch4 (fun s hs hl => trivial)
                      have hD38 := Mur.DskF.chg hD37 ch5 (fun s hs hl => ⟨by have := hM s hs; omega, trivial⟩)
                      have hR35 := Mur.Ref.chg hR ch4 (fun s hs hl => trivial)
                      have hR36 := Mur.Ref.chg hR35 ch5 (fun s hs hl => ⟨by have := hMR s hs; omega, trivial⟩)
                      refine (Sync_any gd d F 1 W6 hD38).mono ?_
                      rw [show fE 1 = 0 from by decide]
                      rintro _ W35 ⟨FF6, rfl, hD39, ch31, no8⟩
                      have hM10 := Mur.DskF.mem hD39
                      have zz35 := ch31.size
                      have hR37 := Mur.Ref.chg hR36 ch31 (fun s hs hl => Mur.Dj.off1 hJ hs)
                      have jj9 := Mur.Dj.step1 hJ no8 hMR (by omega)
                      refine ⟨_, rfl, ?_⟩
                      refine Wk.rPure 4 (some 8) (.int .i64 0) rfl rfl (by kernel_rfl) (by kernel_rfl) ?_
                      refine Wk.rEnd 5 rfl ?_
                      refine Wk.nxt ?_
                      refine wp_seq ?_
                      refine Wk.reg ?_
                      have hRp2 := hR37.hp
                      refine Wk.rPure 0 (some 113) (.int .i64 0) rfl rfl (by kernel_rfl) (by kernel_rfl) ?_
                      refine Wk.rPure 1 (some 114) (.bool true) rfl rfl (by kernel_rfl) (Wk.boolT (b := ((0 : Int) == (0 : Int))) (beq_iff_eq.2 (by decide)) (by kernel_rfl)) ?_
                      refine Wk.rEnd 2 rfl ?_
                      refine Wk.nxt ?_
                      refine wp_cond_true (by kernel_rfl) ?_
                      refine Wk.dReg ([W1.heap.size]) (by kernel_rfl) ?_
                      intro W36 ch32 sz12
                      have zz36 := ch32.size
                      have sS12 : Wk.Chg ([W1.heap.size]) W36 W36 := (Wk.Chg.refl _).more (by simp)
                      refine Wk.dVal 0 (some 115) (.pointer (some ⟨W1.heap.size, 0, none⟩)) rfl rfl (by kernel_rfl) (by kernel_rfl) (by kernel_rfl) (fun _ _ _ h => h) (by kernel_rfl) (fun w' hw' => by kernel_rfl) sS12 ?_
                      refine Wk.dVal 1 (some 116) (.pointer (some ⟨W4.heap.size, 1, none⟩)) rfl rfl (by kernel_rfl) (by kernel_rfl) (by kernel_rfl) (fun _ _ _ h => h) (by kernel_rfl) (fun w' hw' => by kernel_rfl) sS12 ?_
                      refine Wk.dVal 2 (some 117) (.int .i64 1) rfl rfl (by kernel_rfl) (by kernel_rfl) (by kernel_rfl) (fun _ _ _ h => h) (by kernel_rfl) (fun w' hw' => (Wk.load1 3 (.tmp 116) rfl (by kernel_rfl) ⟨W4.heap.size, 1, none⟩ (by kernel_rfl) (.int .i64 1) ((cell_of_row _ _ 1 _ _ _ (Wk.Chg.hp hw' (Wk.Chg.hp ch32 (Wk.Chg.hp ch31 hb3 (Mur.off_iff.2 (fun t ht => by have := hM t ht; omega))) trivial) ⟨by omega, trivial⟩)).trans rfl))) sS12 ?_
                      refine Wk.dVal 3 (some 118) (.pointer (some ⟨W1.heap.size, 0, none⟩)) rfl rfl (by kernel_rfl) (by kernel_rfl) (by kernel_rfl) (fun _ _ _ h => h) (by kernel_rfl) (fun w' hw' => by kernel_rfl) sS12 ?_
                      refine Wk.dVal 4 (some 119) (.pointer (some ⟨W4.heap.size, 1, none⟩)) rfl rfl (by kernel_rfl) (by kernel_rfl) (by kernel_rfl) (fun _ _ _ h => h) (by kernel_rfl) (fun w' hw' => by kernel_rfl) sS12 ?_
                      refine Wk.dVal 5 (some 120) (.int .i64 1) rfl rfl (by kernel_rfl) (by kernel_rfl) (by kernel_rfl) (fun _ _ _ h => h) (by kernel_rfl) (fun w' hw' => (Wk.load1 3 (.tmp 119) rfl (by kernel_rfl) ⟨W4.heap.size, 1, none⟩ (by kernel_rfl) (.int .i64 1) ((cell_of_row _ _ 1 _ _ _ (Wk.Chg.hp hw' (Wk.Chg.hp ch32 (Wk.Chg.hp ch31 hb3 (Mur.off_iff.2 (fun t ht => by have := hM t ht; omega))) trivial) ⟨by omega, trivial⟩)).trans rfl))) sS12 ?_
                      refine Wk.dVal 6 (some 121) (.pointer (some ⟨W1.heap.size, 0, none⟩)) rfl rfl (by kernel_rfl) (by kernel_rfl) (by kernel_rfl) (fun _ _ _ h => h) (by kernel_rfl) (fun w' hw' => by kernel_rfl) sS12 ?_
                      refine Wk.dVal 7 (some 122) (.pointer (some ⟨W1.heap.size, 0, none⟩)) rfl rfl (by kernel_rfl) (by kernel_rfl) (by kernel_rfl) (fun _ _ _ h => h) (by kernel_rfl) (fun w' hw' => by kernel_rfl) sS12 ?_
                      refine Wk.dVal 8 (some 123) (.pointer (some ⟨W1.heap.size, 1, none⟩)) rfl rfl (by kernel_rfl) (by kernel_rfl) (by kernel_rfl) (fun _ _ _ h => h) (by kernel_rfl) (fun w' hw' => (Wk.index_arr 43 26 (.tmp 122) (.tmp 120) rfl 2 Try.underlying43 1 (by kernel_rfl) W1.heap.size 0 1 .i64 (by kernel_rfl) (by kernel_rfl) (by decide))) sS12 ?_
                      refine Wk.dVal 11 (some 126) (.pointer (some ⟨W1.heap.size, 0, none⟩)) rfl rfl (by kernel_rfl) (by kernel_rfl) (by kernel_rfl) (fun _ _ _ h => h) (by kernel_rfl) (fun w' hw' => by kernel_rfl) sS12 ?_
                      refine Wk.dVal 12 (some 127) (.pointer (some ⟨W1.heap.size, 2, none⟩)) rfl rfl (by kernel_rfl) (by kernel_rfl) (by kernel_rfl) (fun _ _ _ h => h) (by kernel_rfl) (fun w' hw' => by kernel_rfl) sS12 ?_
                      refine Wk.dOp 9 (by kernel_rfl) ?_
                      refine Wk.oVal (some 124) (.slice A1 n1 c1) rfl rfl (by kernel_rfl) (Wk.load1 26 (.tmp 123) rfl (by kernel_rfl) ⟨W1.heap.size, 1, none⟩ (by kernel_rfl) (.slice A1 n1 c1) ((cell_of_row _ _ 1 _ _ _ (Wk.Chg.hp ch32 hRp2 trivial)).trans rfl)) ?_
                      refine ⟨sS12, ?_⟩
                      refine Wk.dVal 10 (some 125) (.int .i64 ((n1 : Nat) : Int)) rfl rfl (by kernel_rfl) (by kernel_rfl) (by kernel_rfl) (fun _ _ _ h => h) (by kernel_rfl) (fun w' hw' => by kernel_rfl) sS12 ?_
                      refine Wk.dVal 13 (some 128) (.pointer (some ⟨W1.heap.size, 3, none⟩)) rfl rfl (by kernel_rfl) (by kernel_rfl) (by kernel_rfl) (fun _ _ _ h => h) (by kernel_rfl) (fun w' hw' => (Wk.index_arr 27 3 (.tmp 127) (.tmp 117) rfl 2 Try.underlying27 1 (by kernel_rfl) W1.heap.size 2 1 .i64 (by kernel_rfl) (by kernel_rfl) (by decide))) sS12 ?_
                      refine Wk.dOp 14 (by kernel_rfl) ?_
                      refine Wk.oExS none _ rfl rfl (by kernel_rfl) (Wk.store1 3 (.tmp 128) (.tmp 125) rfl (by kernel_rfl) W1.heap.size 3 (by kernel_rfl) (.int .i64 ((n1 : Nat) : Int)) (by kernel_rfl) rfl 45 #[.slice A0 n0 c0, .slice A1 n1 c1, .int .i64 ((d.x.n : Nat) : Int), .int .i64 ((d.y.n : Nat) : Int)] (Wk.Chg.hp ch32 hRp2 trivial) (by simp)) ?_
                      rintro W37 ⟨hb10, ch33⟩
                      replace hb10 : W37.heap[W1.heap.size]? = some (.cells #[.slice A0 n0 c0, .slice A1 n1 c1, .int .i64 ((d.x.n : Nat) : Int), .int .i64 ((n1 : Nat) : Int)] 45 (0, 0)) := hb10
                      have zz37 := ch33.size
                      have sS13 := Wk.Chg.step sS12 ch33 ⟨.inl (by simp), trivial⟩
                      refine ⟨sS13, ?_⟩
                      refine Wk.dEnd (by kernel_rfl) ?_
                      refine Wk.inN ?_
                      refine Wk.nxt ?_
                      have kk57 : Wk.Chg [W1.heap.size] W35 W36 := Wk.Chg.step ((Wk.Chg.refl _).more (by simp)) ch32 trivial
                      have kk58 := Wk.Chg.step kk57 ch33 ⟨.inl (by simp), trivial⟩
                      have hR38 : Mur.Ref 5 45 W37 W1.heap.size (Mur.Dk.sync d 1) A0 n0 c0 A1 n1 c1 := Mur.Ref.re hR37 kk58 (x := ⟨d.x.b, d.x.n⟩) (y := ⟨d.y.b, d.y.b.length⟩) rfl rfl (by have hbl_ := hR37.b1.1; rw [hbl_]; exact hb10)
                      have hM11 := Mur.Ref.mem hR38
                      have hD40 := Mur.DskF.chg hD39 kk58 (fun s hs hl => ⟨fun e => jj9 s hs (by rw [e]; exact Mur.Ref.self), trivial⟩)
                      have jj10 : Mur.Dj FF6 (W1.heap.size :: (Mur.ablk A0 ++ Mur.ablk A1)) := fun s hs hg => jj9 s hs (by simp [Mur.ablk] at hg ⊢; first | exact hg | (rcases hg with hg | hg <;> simp [hg]))
                      have kk59 := Wk.Chg.step HB ch4 trivial
                      have kk60 := Wk.Chg.step kk59 ch5 ⟨.inr (by omega), trivial⟩
                      have kk61 := Wk.Chg.step kk60 ch31 (Mur.newOr_iff.2 (fun t ht => .inr (by have := hM t ht; omega)))
                      have kk62 := Wk.Chg.step kk61 ch32 trivial
                      have kk63 := Wk.Chg.step kk62 ch33 ⟨.inr (by omega), trivial⟩
                      exact ⟨gd, FF6, (Mur.Dk.sync d 1), A0, n0, c0, A1, n1, c1, gt, 0, by kernel_rfl, hD40, hR38, jj10, (by omega), kk63, (by omega)⟩
                  · obtain rfl : e9 = 2 := he9.trans (if_neg hfs)
                    refine Wk.rPure 0 (some 109) (.pointer (some ⟨gd, 0, none⟩)) rfl rfl (by kernel_rfl) (by kernel_rfl) ?_
                    refine Wk.rPure 1 (some 110) (.pointer (some ⟨W4.heap.size, 1, none⟩)) rfl rfl (by kernel_rfl) (by kernel_rfl) ?_
                    refine Wk.rPure 2 (some 111) (.int .i64 f) rfl rfl (by kernel_rfl) (Wk.load1 3 (.tmp 110) rfl (by kernel_rfl) ⟨W4.heap.size, 1, none⟩ (by kernel_rfl) (.int .i64 f) ((cell_of_row _ _ 1 _ _ _ hb3).trans rfl)) ?_
                    refine Wk.rCall 3 (some 112) 11 [.tmp 109, .tmp 111] #[23, 3] [.pointer (some ⟨gd, 0, none⟩), .int .i64 f] rfl rfl (by kernel_rfl) rfl (by kernel_rfl) (by kernel_rfl) ?_
                    have hD41 := Mur.DskF.chg hD ch4 (fun s hs hl => trivial)
                    have hD42 := Mur.DskF.chg hD41 ch5 (fun s hs hl => ⟨by have := hM s hs; omega, trivial⟩)
                    have hR39 := Mur.Ref.chg hR ch4 (fun s hs hl => trivial)
                    have hR40 := Mur.Ref.chg hR39 ch5 (fun s hs hl => ⟨by have := hMR s hs; omega, trivial⟩)
                    refine (Sync_any gd d F f W6 hD42).mono ?_
                    rw [show fE f = 2 from if_neg hfs]
                    rw [show Mur.Dk.sync d f = d from Mur.put_out d f _ hfs]
                    rintro _ W38 ⟨FF7, rfl, hD43, ch34, no9⟩
                    have hM12 := Mur.DskF.mem hD43
                    have zz38 := ch34.size
                    have hR41 := Mur.Ref.chg hR40 ch34 (fun s hs hl => Mur.Dj.off1 hJ hs)
                    have jj11 := Mur.Dj.step1 hJ no9 hMR (by omega)
                    refine ⟨_, rfl, ?_⟩
                    refine Wk.rPure 4 (some 8) (.int .i64 2) rfl rfl (by kernel_rfl) (by kernel_rfl) ?_
                    refine Wk.rEnd 5 rfl ?_
                    refine Wk.nxt ?_
                    refine wp_seq ?_
                    refine Wk.reg ?_
                    refine Wk.rPure 0 (some 113) (.int .i64 2) rfl rfl (by kernel_rfl) (by kernel_rfl) ?_
                    refine Wk.rPure 1 (some 114) (.bool false) rfl rfl (by kernel_rfl) (Wk.boolF (b := ((2 : Int) == (0 : Int))) (beq_eq_false_iff_ne.2 (by decide)) (by kernel_rfl)) ?_
                    refine Wk.rEnd 2 rfl ?_
                    refine Wk.nxt ?_
                    refine wp_cond_false (by kernel_rfl) ?_
                    refine wp_skip ?_
                    refine Wk.inN ?_
                    refine Wk.nxt ?_
                    have kk64 := Wk.Chg.step HB ch4 trivial
                    have kk65 := Wk.Chg.step kk64 ch5 ⟨.inr (by omega), trivial⟩
                    have kk66 := Wk.Chg.step kk65 ch34 (Mur.newOr_iff.2 (fun t ht => .inr (by have := hM t ht; omega)))
                    exact ⟨gd, FF7, d, A0, n0, c0, A1, n1, c1, gt, 2, by kernel_rfl, hD43, hR41, jj11, (by omega), kk66, (by omega)⟩
                · refine Wk.rPure 0 (some 108) (.bool false) rfl rfl (by kernel_rfl) (Wk.boolF (b := (kd == (2 : Int))) (beq_eq_false_iff_ne.2 (by first | exact hx13 | omega)) (by kernel_rfl)) ?_
                  refine Wk.rPure 1 (some 107) (.bool false) rfl rfl (by kernel_rfl) (by kernel_rfl) ?_
                  refine Wk.rEnd 2 rfl ?_
                  refine Wk.nxt ?_
                  refine wp_cond_false (by kernel_rfl) ?_
                  refine wp_seq ?_
                  refine Wk.reg ?_
                  by_cases hx14 : kd = (3 : Int)
                  · refine Wk.rPure 0 (some 130) (.bool true) rfl rfl (by kernel_rfl) (Wk.boolT (b := (kd == (3 : Int))) (beq_iff_eq.2 (by first | exact hx14 | omega)) (by kernel_rfl)) ?_
                    refine Wk.rPure 1 (some 129) (.bool true) rfl rfl (by kernel_rfl) (by kernel_rfl) ?_
                    refine Wk.rEnd 2 rfl ?_
                    refine Wk.nxt ?_
                    refine wp_cond_true (by kernel_rfl) ?_
                    refine wp_seq ?_
                    refine Wk.reg ?_
                    by_cases hfs : hasF f
                    · rcases hfs with rfl | rfl
                      · obtain rfl : e9 = 0 := he9.trans (by decide)
                        refine Wk.rPure 0 (some 131) (.pointer (some ⟨gd, 0, none⟩)) rfl rfl (by kernel_rfl) (by kernel_rfl) ?_
                        refine Wk.rPure 1 (some 132) (.pointer (some ⟨W4.heap.size, 1, none⟩)) rfl rfl (by kernel_rfl) (by kernel_rfl) ?_
                        refine Wk.rPure 2 (some 133) (.int .i64 0) rfl rfl (by kernel_rfl) (Wk.load1 3 (.tmp 132) rfl (by kernel_rfl) ⟨W4.heap.size, 1, none⟩ (by kernel_rfl) (.int .i64 0) ((cell_of_row _ _ 1 _ _ _ hb3).trans rfl)) ?_
                        refine Wk.rCall 3 (some 134) 12 [.tmp 131, .tmp 133] #[23, 3] [.pointer (some ⟨gd, 0, none⟩), .int .i64 0] rfl rfl (by kernel_rfl) rfl (by kernel_rfl) (by kernel_rfl) ?_
                        have hD44 := Mur.DskF.chg hD ch4 (fun s hs hl => trivial)
                        have hD45 := Mur.DskF.chg hD44 ch5 (fun s hs hl => ⟨by have := hM s hs; omega, trivial⟩)
                        have hR42 := Mur.Ref.chg hR ch4 (fun s hs hl => trivial)
                        have hR43 := Mur.Ref.chg hR42 ch5 (fun s hs hl => ⟨by have := hMR s hs; omega, trivial⟩)
                        refine (Clear_any gd d F 0 W6 hD45).mono ?_
                        rw [show fE 0 = 0 from by decide]
                        rintro _ W39 ⟨FF8, rfl, hD46, ch35, no10⟩
                        have hM13 := Mur.DskF.mem hD46
                        have zz39 := ch35.size
                        have hR44 := Mur.Ref.chg hR43 ch35 (fun s hs hl => Mur.Dj.off1 hJ hs)
                        have jj12 := Mur.Dj.step1 hJ no10 hMR (by omega)
                        refine ⟨_, rfl, ?_⟩
                        refine Wk.rPure 4 (some 8) (.int .i64 0) rfl rfl (by kernel_rfl) (by kernel_rfl) ?_
                        refine Wk.rEnd 5 rfl ?_
                        refine Wk.nxt ?_
                        refine wp_seq ?_
                        refine Wk.reg ?_
                        have hRp3 := hR44.hp
                        refine Wk.rPure 0 (some 135) (.int .i64 0) rfl rfl (by kernel_rfl) (by kernel_rfl) ?_
                        refine Wk.rPure 1 (some 136) (.bool true) rfl rfl (by kernel_rfl) (Wk.boolT (b := ((0 : Int) == (0 : Int))) (beq_iff_eq.2 (by decide)) (by kernel_rfl)) ?_
                        refine Wk.rEnd 2 rfl ?_
                        refine Wk.nxt ?_
                        refine wp_cond_true (by kernel_rfl) ?_
                        refine Wk.dReg ([W1.heap.size]) (by kernel_rfl) ?_
                        intro W40 ch36 sz13
                        have zz40 := ch36.size
                        have sS14 : Wk.Chg ([W1.heap.size]) W40 W40 := (Wk.Chg.refl _).more (by simp)
                        refine Wk.dVal 0 (some 137) (.pointer (some ⟨W1.heap.size, 0, none⟩)) rfl rfl (by kernel_rfl) (by kernel_rfl) (by kernel_rfl) (fun _ _ _ h => h) (by kernel_rfl) (fun w' hw' => by kernel_rfl) sS14 ?_
                        refine Wk.dVal 1 (some 138) (.pointer (some ⟨W4.heap.size, 1, none⟩)) rfl rfl (by kernel_rfl) (by kernel_rfl) (by kernel_rfl) (fun _ _ _ h => h) (by kernel_rfl) (fun w' hw' => by kernel_rfl) sS14 ?_
                        refine Wk.dVal 2 (some 139) (.int .i64 0) rfl rfl (by kernel_rfl) (by kernel_rfl) (by kernel_rfl) (fun _ _ _ h => h) (by kernel_rfl) (fun w' hw' => (Wk.load1 3 (.tmp 138) rfl (by kernel_rfl) ⟨W4.heap.size, 1, none⟩ (by kernel_rfl) (.int .i64 0) ((cell_of_row _ _ 1 _ _ _ (Wk.Chg.hp hw' (Wk.Chg.hp ch36 (Wk.Chg.hp ch35 hb3 (Mur.off_iff.2 (fun t ht => by have := hM t ht; omega))) trivial) ⟨by omega, trivial⟩)).trans rfl))) sS14 ?_
                        refine Wk.dVal 3 (some 140) (.pointer (some ⟨W1.heap.size, 0, none⟩)) rfl rfl (by kernel_rfl) (by kernel_rfl) (by kernel_rfl) (fun _ _ _ h => h) (by kernel_rfl) (fun w' hw' => by kernel_rfl) sS14 ?_
                        refine Wk.dVal 4 (some 141) (.pointer (some ⟨W4.heap.size, 1, none⟩)) rfl rfl (by kernel_rfl) (by kernel_rfl) (by kernel_rfl) (fun _ _ _ h => h) (by kernel_rfl) (fun w' hw' => by kernel_rfl) sS14 ?_
                        refine Wk.dVal 5 (some 142) (.int .i64 0) rfl rfl (by kernel_rfl) (by kernel_rfl) (by kernel_rfl) (fun _ _ _ h => h) (by kernel_rfl) (fun w' hw' => (Wk.load1 3 (.tmp 141) rfl (by kernel_rfl) ⟨W4.heap.size, 1, none⟩ (by kernel_rfl) (.int .i64 0) ((cell_of_row _ _ 1 _ _ _ (Wk.Chg.hp hw' (Wk.Chg.hp ch36 (Wk.Chg.hp ch35 hb3 (Mur.off_iff.2 (fun t ht => by have := hM t ht; omega))) trivial) ⟨by omega, trivial⟩)).trans rfl))) sS14 ?_
                        refine Wk.dVal 6 (some 143) (.pointer (some ⟨W1.heap.size, 0, none⟩)) rfl rfl (by kernel_rfl) (by kernel_rfl) (by kernel_rfl) (fun _ _ _ h => h) (by kernel_rfl) (fun w' hw' => by kernel_rfl) sS14 ?_
                        refine Wk.dVal 7 (some 144) (.pointer (some ⟨W1.heap.size, 0, none⟩)) rfl rfl (by kernel_rfl) (by kernel_rfl) (by kernel_rfl) (fun _ _ _ h => h) (by kernel_rfl) (fun w' hw' => by kernel_rfl) sS14 ?_
                        refine Wk.dVal 8 (some 145) (.pointer (some ⟨W1.heap.size, 0, none⟩)) rfl rfl (by kernel_rfl) (by kernel_rfl) (by kernel_rfl) (fun _ _ _ h => h) (by kernel_rfl) (fun w' hw' => (Wk.index_arr 43 26 (.tmp 144) (.tmp 139) rfl 2 Try.underlying43 1 (by kernel_rfl) W1.heap.size 0 0 .i64 (by kernel_rfl) (by kernel_rfl) (by decide))) sS14 ?_
                        refine Wk.dVal 10 (some 146) (.pointer (some ⟨W1.heap.size, 0, none⟩)) rfl rfl (by kernel_rfl) (by kernel_rfl) (by kernel_rfl) (fun _ _ _ h => h) (by kernel_rfl) (fun w' hw' => by kernel_rfl) sS14 ?_
                        refine Wk.dVal 11 (some 147) (.pointer (some ⟨W1.heap.size, 2, none⟩)) rfl rfl (by kernel_rfl) (by kernel_rfl) (by kernel_rfl) (fun _ _ _ h => h) (by kernel_rfl) (fun w' hw' => by kernel_rfl) sS14 ?_
                        refine Wk.dOp 9 (by kernel_rfl) ?_
                        refine Wk.oExS none _ rfl rfl (by kernel_rfl) (Wk.store1 26 (.tmp 145) (.const (.slice none 0 0)) rfl (by kernel_rfl) W1.heap.size 0 (by kernel_rfl) (.slice none 0 0) (by kernel_rfl) rfl 45 #[.slice A0 n0 c0, .slice A1 n1 c1, .int .i64 ((d.x.n : Nat) : Int), .int .i64 ((d.y.n : Nat) : Int)] (Wk.Chg.hp ch36 hRp3 trivial) (by simp)) ?_
                        rintro W41 ⟨hb11, ch37⟩
                        replace hb11 : W41.heap[W1.heap.size]? = some (.cells #[.slice none 0 0, .slice A1 n1 c1, .int .i64 ((d.x.n : Nat) : Int), .int .i64 ((d.y.n : Nat) : Int)] 45 (0, 0)) := hb11
                        have zz41 := ch37.size
                        have sS15 := Wk.Chg.step sS14 ch37 ⟨.inl (by simp), trivial⟩
                        refine ⟨sS15, ?_⟩
                        refine Wk.dVal 12 (some 148) (.pointer (some ⟨W1.heap.size, 2, none⟩)) rfl rfl (by kernel_rfl) (by kernel_rfl) (by kernel_rfl) (fun _ _ _ h => h) (by kernel_rfl) (fun w' hw' => (Wk.index_arr 27 3 (.tmp 147) (.tmp 142) rfl 2 Try.underlying27 1 (by kernel_rfl) W1.heap.size 2 0 .i64 (by kernel_rfl) (by kernel_rfl) (by decide))) sS15 ?_
                        refine Wk.dOp 13 (by kernel_rfl) ?_
                        refine Wk.oExS none _ rfl rfl (by kernel_rfl) (Wk.store1 3 (.tmp 148) (.const (.int .i64 0)) rfl (by kernel_rfl) W1.heap.size 2 (by kernel_rfl) (.int .i64 0) (by kernel_rfl) rfl 45 #[.slice none 0 0, .slice A1 n1 c1, .int .i64 ((d.x.n : Nat) : Int), .int .i64 ((d.y.n : Nat) : Int)] hb11 (by simp)) ?_
                        rintro W42 ⟨hb12, ch38⟩
                        replace hb12 : W42.heap[W1.heap.size]? = some (.cells #[.slice none 0 0, .slice A1 n1 c1, .int .i64 0, .int .i64 ((d.y.n : Nat) : Int)] 45 (0, 0)) := hb12
                        have zz42 := ch38.size
                        have sS16 := Wk.Chg.step sS15 ch38 ⟨.inl (by simp), trivial⟩
                        refine ⟨sS16, ?_⟩
                        refine Wk.dEnd (by kernel_rfl) ?_
                        refine Wk.inN ?_
                        refine Wk.nxt ?_
                        have kk67 : Wk.Chg [W1.heap.size] W39 W40 := Wk.Chg.step ((Wk.Chg.refl _).more (by simp)) ch36 trivial
                        have kk68 := Wk.Chg.step kk67 ch37 ⟨.inl (by simp), trivial⟩
                        have kk69 := Wk.Chg.step kk68 ch38 ⟨.inl (by simp), trivial⟩
                        have hR45 : Mur.Ref 5 45 W42 W1.heap.size (Mur.Dk.clear d 0) none 0 0 A1 n1 c1 := Mur.Ref.clear0 hR44 kk69 hb12
                        have hM14 := Mur.Ref.mem hR45
                        have hD47 := Mur.DskF.chg hD46 kk69 (fun s hs hl => ⟨fun e => jj12 s hs (by rw [e]; exact Mur.Ref.self), trivial⟩)
                        have jj13 : Mur.Dj FF8 (W1.heap.size :: (Mur.ablk none ++ Mur.ablk A1)) := fun s hs hg => jj12 s hs (by simp [Mur.ablk] at hg ⊢; first | exact hg | (rcases hg with hg | hg <;> simp [hg]))
                        have kk70 := Wk.Chg.step HB ch4 trivial
                        have kk71 := Wk.Chg.step kk70 ch5 ⟨.inr (by omega), trivial⟩
                        have kk72 := Wk.Chg.step kk71 ch35 (Mur.newOr_iff.2 (fun t ht => .inr (by have := hM t ht; omega)))
                        have kk73 := Wk.Chg.step kk72 ch36 trivial
                        have kk74 := Wk.Chg.step kk73 ch37 ⟨.inr (by omega), trivial⟩
                        have kk75 := Wk.Chg.step kk74 ch38 ⟨.inr (by omega), trivial⟩
                        exact ⟨gd, FF8, (Mur.Dk.clear d 0), none, 0, 0, A1, n1, c1, gt, 0, by kernel_rfl, hD47, hR45, jj13, (by omega), kk75, (by omega)⟩
                      · obtain rfl : e9 = 0 := he9.trans (by decide)
                        refine Wk.rPure 0 (some 131) (.pointer (some ⟨gd, 0, none⟩)) rfl rfl (by kernel_rfl) (by kernel_rfl) ?_
                        refine Wk.rPure 1 (some 132) (.pointer (some ⟨W4.heap.size, 1, none⟩)) rfl rfl (by kernel_rfl) (by kernel_rfl) ?_
                        refine Wk.rPure 2 (some 133) (.int .i64 1) rfl rfl (by kernel_rfl) (Wk.load1 3 (.tmp 132) rfl (by kernel_rfl) ⟨W4.heap.size, 1, none⟩ (by kernel_rfl) (.int .i64 1) ((cell_of_row _ _ 1 _ _ _ hb3).trans rfl)) ?_
                        refine Wk.rCall 3 (some 134) 12 [.tmp 131, .tmp 133] #[23, 3] [.pointer (some ⟨gd, 0, none⟩), .int .i64 1] rfl rfl (by kernel_rfl) rfl (by kernel_rfl) (by kernel_rfl) ?_
                        have hD48 := Mur.DskF.chg hD ch4 (fun s hs hl => trivial)
                        have hD49 := Mur.DskF.chg hD48 ch5 (fun s hs hl => ⟨by have := hM s hs; omega, trivial⟩)
                        have hR46 := Mur.Ref.chg hR ch4 (fun s hs hl => trivial)
                        have hR47 := Mur.Ref.chg hR46 ch5 (fun s hs hl => ⟨by have := hMR s hs; omega, trivial⟩)
                        refine (Clear_any gd d F 1 W6 hD49).mono ?_
                        rw [show fE 1 = 0 from by decide]
                        rintro _ W43 ⟨FF9, rfl, hD50, ch39, no11⟩
                        have hM15 := Mur.DskF.mem hD50
                        have zz43 := ch39.size
                        have hR48 := Mur.Ref.chg hR47 ch39 (fun s hs hl => Mur.Dj.off1 hJ hs)
                        have jj14 := Mur.Dj.step1 hJ no11 hMR (by omega)
                        refine ⟨_, rfl, ?_⟩
                        refine Wk.rPure 4 (some 8) (.int .i64 0) rfl rfl (by kernel_rfl) (by kernel_rfl) ?_
                        refine Wk.rEnd 5 rfl ?_
                        refine Wk.nxt ?_
                        refine wp_seq ?_
                        refine Wk.reg ?_
                        have hRp4 := hR48.hp
                        refine Wk.rPure 0 (some 135) (.int .i64 0) rfl rfl (by kernel_rfl) (by kernel_rfl) ?_
                        refine Wk.rPure 1 (some 136) (.bool true) rfl rfl (by kernel_rfl) (Wk.boolT (b := ((0 : Int) == (0 : Int))) (beq_iff_eq.2 (by decide)) (by kernel_rfl)) ?_
                        refine Wk.rEnd 2 rfl ?_
                        refine Wk.nxt ?_
                        refine wp_cond_true (by kernel_rfl) ?_
                        refine Wk.dReg ([W1.heap.size]) (by kernel_rfl) ?_
                        intro W44 ch40 sz14
                        have zz44 := ch40.size
                        have sS17 : Wk.Chg ([W1.heap.size]) W44 W44 := (Wk.Chg.refl _).more (by simp)
                        refine Wk.dVal 0 (some 137) (.pointer (some ⟨W1.heap.size, 0, none⟩)) rfl rfl (by kernel_rfl) (by kernel_rfl) (by kernel_rfl) (fun _ _ _ h => h) (by kernel_rfl) (fun w' hw' => by kernel_rfl) sS17 ?_
                        refine Wk.dVal 1 (some 138) (.pointer (some ⟨W4.heap.size, 1, none⟩)) rfl rfl (by kernel_rfl) (by kernel_rfl) (by kernel_rfl) (fun _ _ _ h => h) (by kernel_rfl) (fun w' hw' => by kernel_rfl) sS17 ?_
                        refine Wk.dVal 2 (some 139) (.int .i64 1) rfl rfl (by kernel_rfl) (by kernel_rfl) (by kernel_rfl) (fun _ _ _ h => h) (by kernel_rfl) (fun w' hw' => (Wk.load1 3 (.tmp 138) rfl (by kernel_rfl) ⟨W4.heap.size, 1, none⟩ (by kernel_rfl) (.int .i64 1) ((cell_of_row _ _ 1 _ _ _ (Wk.Chg.hp hw' (Wk.Chg.hp ch40 (Wk.Chg.hp ch39 hb3 (Mur.off_iff.2 (fun t ht => by have := hM t ht; omega))) trivial) ⟨by omega, trivial⟩)).trans rfl))) sS17 ?_
                        refine Wk.dVal 3 (some 140) (.pointer (some ⟨W1.heap.size, 0, none⟩)) rfl rfl (by kernel_rfl) (by kernel_rfl) (by kernel_rfl) (fun _ _ _ h => h) (by kernel_rfl) (fun w' hw' => by kernel_rfl) sS17 ?_
                        refine Wk.dVal 4 (some 141) (.pointer (some ⟨W4.heap.size, 1, none⟩)) rfl rfl (by kernel_rfl) (by kernel_rfl) (by kernel_rfl) (fun _ _ _ h => h) (by kernel_rfl) (fun w' hw' => by kernel_rfl) sS17 ?_
                        refine Wk.dVal 5 (some 142) (.int .i64 1) rfl rfl (by kernel_rfl) (by kernel_rfl) (by kernel_rfl) (fun _ _ _ h => h) (by kernel_rfl) (fun w' hw' => (Wk.load1 3 (.tmp 141) rfl (by kernel_rfl) ⟨W4.heap.size, 1, none⟩ (by kernel_rfl) (.int .i64 1) ((cell_of_row _ _ 1 _ _ _ (Wk.Chg.hp hw' (Wk.Chg.hp ch40 (Wk.Chg.hp ch39 hb3 (Mur.off_iff.2 (fun t ht => by have := hM t ht; omega))) trivial) ⟨by omega, trivial⟩)).trans rfl))) sS17 ?_
                        refine Wk.dVal 6 (some 143) (.pointer (some ⟨W1.heap.size, 0, none⟩)) rfl rfl (by kernel_rfl) (by kernel_rfl) (by kernel_rfl) (fun _ _ _ h => h) (by kernel_rfl) (fun w' hw' => by kernel_rfl) sS17 ?_
                        refine Wk.dVal 7 (some 144) (.pointer (some ⟨W1.heap.size, 0, none⟩)) rfl rfl (by kernel_rfl) (by kernel_rfl) (by kernel_rfl) (fun _ _ _ h => h) (by kernel_rfl) (fun w' hw' => by kernel_rfl) sS17 ?_
                        refine Wk.dVal 8 (some 145) (.pointer (some ⟨W1.heap.size, 1, none⟩)) rfl rfl (by kernel_rfl) (by kernel_rfl) (by kernel_rfl) (fun _ _ _ h => h) (by kernel_rfl) (fun w' hw' => (Wk.index_arr 43 26 (.tmp 144) (.tmp 139) rfl 2 Try.underlying43 1 (by kernel_rfl) W1.heap.size 0 1 .i64 (by kernel_rfl) (by kernel_rfl) (by decide))) sS17 ?_
                        refine Wk.dVal 10 (some 146) (.pointer (some ⟨W1.heap.size, 0, none⟩)) rfl rfl (by kernel_rfl) (by kernel_rfl) (by kernel_rfl) (fun _ _ _ h => h) (by kernel_rfl) (fun w' hw' => by kernel_rfl) sS17 ?_
                        refine Wk.dVal 11 (some 147) (.pointer (some ⟨W1.heap.size, 2, none⟩)) rfl rfl (by kernel_rfl) (by kernel_rfl) (by kernel_rfl) (fun _ _ _ h => h) (by kernel_rfl) (fun w' hw' => by kernel_rfl) sS17 ?_
                        refine Wk.dOp 9 (by kernel_rfl) ?_
                        refine Wk.oExS none _ rfl rfl (by kernel_rfl) (Wk.store1 26 (.tmp 145) (.const (.slice none 0 0)) rfl (by kernel_rfl) W1.heap.size 1 (by kernel_rfl) (.slice none 0 0) (by kernel_rfl) rfl 45 #[.slice A0 n0 c0, .slice A1 n1 c1, .int .i64 ((d.x.n : Nat) : Int), .int .i64 ((d.y.n : Nat) : Int)] (Wk.Chg.hp ch40 hRp4 trivial) (by simp)) ?_
                        rintro W45 ⟨hb13, ch41⟩
                        replace hb13 : W45.heap[W1.heap.size]? = some (.cells #[.slice A0 n0 c0, .slice none 0 0, .int .i64 ((d.x.n : Nat) : Int), .int .i64 ((d.y.n : Nat) : Int)] 45 (0, 0)) := hb13
                        have zz45 := ch41.size
                        have sS18 := Wk.Chg.step sS17 ch41 ⟨.inl (by simp), trivial⟩
                        refine ⟨sS18, ?_⟩
                        refine Wk.dVal 12 (some 148) (.pointer (some ⟨W1.heap.size, 3, none⟩)) rfl rfl (by kernel_rfl) (by kernel_rfl) (by kernel_rfl) (fun _ _ _ h => h) (by kernel_rfl) (fun w' hw' => (Wk.index_arr 27 3 (.tmp 147) (.tmp 142) rfl 2 Try.underlying27 1 (by kernel_rfl) W1.heap.size 2 1 .i64 (by kernel_rfl) (by kernel_rfl) (by decide))) sS18 ?_
                        refine Wk.dOp 13 (by kernel_rfl) ?_
                        refine Wk.oExS none _ rfl rfl (by kernel_rfl) (Wk.store1 3 (.tmp 148) (.const (.int .i64 0)) rfl (by kernel_rfl) W1.heap.size 3 (by kernel_rfl) (.int .i64 0) (by kernel_rfl) rfl 45 #[.slice A0 n0 c0, .slice none 0 0, .int .i64 ((d.x.n : Nat) : Int), .int .i64 ((d.y.n : Nat) : Int)] hb13 (by simp)) ?_
                        rintro W46 ⟨hb14, ch42⟩
                        replace hb14 : W46.heap[W1.heap.size]? = some (.cells #[.slice A0 n0 c0, .slice none 0 0, .int .i64 ((d.x.n : Nat) : Int), .int .i64 0] 45 (0, 0)) := hb14
                        have zz46 := ch42.size
                        have sS19 := Wk.Chg.step sS18 ch42 ⟨.inl (by simp), trivial⟩
                        refine ⟨sS19, ?_⟩
                        refine Wk.dEnd (by kernel_rfl) ?_
                        refine Wk.inN ?_
                        refine Wk.nxt ?_
                        have kk76 : Wk.Chg [W1.heap.size] W43 W44 := Wk.Chg.step ((Wk.Chg.refl _).more (by simp)) ch40 trivial
                        have kk77 := Wk.Chg.step kk76 ch41 ⟨.inl (by simp), trivial⟩
                        have kk78 := Wk.Chg.step kk77 ch42 ⟨.inl (by simp), trivial⟩
                        have hR49 : Mur.Ref 5 45 W46 W1.heap.size (Mur.Dk.clear d 1) A0 n0 c0 none 0 0 := Mur.Ref.clear1 hR48 kk78 hb14
                        have hM16 := Mur.Ref.mem hR49
                        have hD51 := Mur.DskF.chg hD50 kk78 (fun s hs hl => ⟨fun e => jj14 s hs (by rw [e]; exact Mur.Ref.self), trivial⟩)
                        have jj15 : Mur.Dj FF9 (W1.heap.size :: (Mur.ablk A0 ++ Mur.ablk none)) := fun s hs hg => jj14 s hs (by simp [Mur.ablk] at hg ⊢; first | exact hg | (rcases hg with hg | hg <;> simp [hg]))
                        have kk79 := Wk.Chg.step HB ch4 trivial
                        have kk80 := Wk.Chg.step kk79 ch5 ⟨.inr (by omega), trivial⟩
                        have kk81 := Wk.Chg.step kk80 ch39 (Mur.newOr_iff.2 (fun t ht => .inr (by have := hM t ht; omega)))
                        have kk82 := Wk.Chg.step kk81 ch40 trivial
                        have kk83 := Wk.Chg.step kk82 ch41 ⟨.inr (by omega), trivial⟩
                        have kk84 := Wk.Chg.step kk83 ch42 ⟨.inr (by omega), trivial⟩
                        exact ⟨gd, FF9, (Mur.Dk.clear d 1), A0, n0, c0, none, 0, 0, gt, 0, by kernel_rfl, hD51, hR49, jj15, (by omega), kk84, (by omega)⟩
                    · obtain rfl : e9 = 2 := he9.trans (if_neg hfs)
                      refine Wk.rPure 0 (some 131) (.pointer (some ⟨gd, 0, none⟩)) rfl rfl (by kernel_rfl) (by kernel_rfl) ?_
                      refine Wk.rPure 1 (some 132) (.pointer (some ⟨W4.heap.size, 1, none⟩)) rfl rfl (by kernel_rfl) (by kernel_rfl) ?_
                      refine Wk.rPure 2 (some 133) (.int .i64 f) rfl rfl (by kernel_rfl) (Wk.load1 3 (.tmp 132) rfl (by kernel_rfl) ⟨W4.heap.size, 1, none⟩ (by kernel_rfl) (.int .i64 f) ((cell_of_row _ _ 1 _ _ _ hb3).trans rfl)) ?_
                      refine Wk.rCall 3 (some 134) 12 [.tmp 131, .tmp 133] #[23, 3] [.pointer (some ⟨gd, 0, none⟩), .int .i64 f] rfl rfl (by kernel_rfl) rfl (by kernel_rfl) (by kernel_rfl) ?_
                      have hD52 := Mur.DskF.chg hD ch4 (fun s hs hl => trivial)
                      have hD53 := Mur.DskF.chg hD52 ch5 (fun s hs hl => ⟨by have := hM s hs; omega, trivial⟩)
                      have hR50 := Mur.Ref.chg hR ch4 (fun s hs hl => trivial)
                      have hR51 := Mur.Ref.chg hR50 ch5 (fun s hs hl => ⟨by have := hMR s hs; omega, trivial⟩)
                      refine (Clear_any gd d F f W6 hD53).mono ?_
                      rw [show fE f = 2 from if_neg hfs]
                      rw [show Mur.Dk.clear d f = d from Mur.put_out d f _ hfs]
                      rintro _ W47 ⟨FF10, rfl, hD54, ch43, no12⟩
                      have hM17 := Mur.DskF.mem hD54
                      have zz47 := ch43.size
                      have hR52 := Mur.Ref.chg hR51 ch43 (fun s hs hl => Mur.Dj.off1 hJ hs)
                      have jj16 := Mur.Dj.step1 hJ no12 hMR (by omega)
                      refine ⟨_, rfl, ?_⟩
                      refine Wk.rPure 4 (some 8) (.int .i64 2) rfl rfl (by kernel_rfl) (by kernel_rfl) ?_
                      refine Wk.rEnd 5 rfl ?_
                      refine Wk.nxt ?_
                      refine wp_seq ?_
                      refine Wk.reg ?_
                      refine Wk.rPure 0 (some 135) (.int .i64 2) rfl rfl (by kernel_rfl) (by kernel_rfl) ?_
                      refine Wk.rPure 1 (some 136) (.bool false) rfl rfl (by kernel_rfl) (Wk.boolF (b := ((2 : Int) == (0 : Int))) (beq_eq_false_iff_ne.2 (by decide)) (by kernel_rfl)) ?_
                      refine Wk.rEnd 2 rfl ?_
                      refine Wk.nxt ?_
                      refine wp_cond_false (by kernel_rfl) ?_
                      refine wp_skip ?_
                      refine Wk.inN ?_
                      refine Wk.nxt ?_
                      have kk85 := Wk.Chg.step HB ch4 trivial
                      have kk86 := Wk.Chg.step kk85 ch5 ⟨.inr (by omega), trivial⟩
                      have kk87 := Wk.Chg.step kk86 ch43 (Mur.newOr_iff.2 (fun t ht => .inr (by have := hM t ht; omega)))
                      exact ⟨gd, FF10, d, A0, n0, c0, A1, n1, c1, gt, 2, by kernel_rfl, hD54, hR52, jj16, (by omega), kk87, (by omega)⟩
                  · refine Wk.rPure 0 (some 130) (.bool false) rfl rfl (by kernel_rfl) (Wk.boolF (b := (kd == (3 : Int))) (beq_eq_false_iff_ne.2 (by first | exact hx14 | omega)) (by kernel_rfl)) ?_
                    refine Wk.rPure 1 (some 129) (.bool false) rfl rfl (by kernel_rfl) (by kernel_rfl) ?_
                    refine Wk.rEnd 2 rfl ?_
                    refine Wk.nxt ?_
                    refine wp_cond_false (by kernel_rfl) ?_
                    refine wp_seq ?_
                    refine Wk.reg ?_
                    by_cases hx15 : kd = (4 : Int)
                    · refine Wk.rPure 0 (some 150) (.bool true) rfl rfl (by kernel_rfl) (Wk.boolT (b := (kd == (4 : Int))) (beq_iff_eq.2 (by first | exact hx15 | omega)) (by kernel_rfl)) ?_
                      refine Wk.rPure 1 (some 149) (.bool true) rfl rfl (by kernel_rfl) (by kernel_rfl) ?_
                      refine Wk.rEnd 2 rfl ?_
                      refine Wk.nxt ?_
                      refine wp_cond_true (by kernel_rfl) ?_
                      refine wp_seq ?_
                      refine Wk.reg ?_
                      refine Wk.rPure 0 (some 9) (.int .i64 0) rfl rfl (by kernel_rfl) (by kernel_rfl) ?_
                      refine Wk.rEnd 1 rfl ?_
                      refine Wk.nxt ?_
                      refine wp_seq ?_
                      refine Wk.reg ?_
                      refine Wk.rPure 0 (some 151) (.pointer (some ⟨gd, 0, none⟩)) rfl rfl (by kernel_rfl) (by kernel_rfl) ?_
                      refine Wk.rPure 1 (some 152) (.pointer (some ⟨W4.heap.size, 3, none⟩)) rfl rfl (by kernel_rfl) (by kernel_rfl) ?_
                      refine Wk.rPure 2 (some 153) (.agg #[.int .i64 k0, .int .i64 k1]) rfl rfl (by kernel_rfl) (Wk.loadR 27 (.tmp 152) rfl _ Try.underlying27 rfl W4.heap.size 3 (by kernel_rfl) ([.int .i64 k0, .int .i64 k1]) (by kernel_rfl) (Wk.range_sub 3 [.int .i64 k0, .int .i64 k1] hb3 rfl)) ?_
                      refine Wk.rCall 3 (some 154) 15 [.tmp 151, .tmp 153] #[23, 27] [.pointer (some ⟨gd, 0, none⟩), .agg #[.int .i64 k0, .int .i64 k1]] rfl rfl (by kernel_rfl) rfl (by kernel_rfl) (by kernel_rfl) ?_
                      have hD55 := Mur.DskF.chg hD ch4 (fun s hs hl => trivial)
                      have hD56 := Mur.DskF.chg hD55 ch5 (fun s hs hl => ⟨by have := hM s hs; omega, trivial⟩)
                      have hR53 := Mur.Ref.chg hR ch4 (fun s hs hl => trivial)
                      have hR54 := Mur.Ref.chg hR53 ch5 (fun s hs hl => ⟨by have := hMR s hs; omega, trivial⟩)
                      refine (Crash_any gd d F k0 k1 W6 hD56).mono ?_
                      rintro _ W48 ⟨FF11, rfl, hD57, ch44, no13⟩
                      have hM18 := Mur.DskF.mem hD57
                      have zz48 := ch44.size
                      have hR55 := Mur.Ref.chg hR54 ch44 (fun s hs hl => Mur.Dj.off1 hJ hs)
                      have jj17 := Mur.Dj.step1 hJ no13 hMR (by omega)
                      refine ⟨_, rfl, ?_⟩
                      refine Wk.rEnd 4 rfl ?_
                      refine Wk.nxt ?_
                      refine Wk.reg ?_
                      refine Wk.rPure 0 (some 155) (.pointer (some ⟨W1.heap.size, 0, none⟩)) rfl rfl (by kernel_rfl) (by kernel_rfl) ?_
                      refine Wk.rPure 1 (some 156) (.pointer (some ⟨W4.heap.size, 3, none⟩)) rfl rfl (by kernel_rfl) (by kernel_rfl) ?_
                      refine Wk.rPure 2 (some 157) (.agg #[.int .i64 k0, .int .i64 k1]) rfl rfl (by kernel_rfl) (Wk.loadR 27 (.tmp 156) rfl _ Try.underlying27 rfl W4.heap.size 3 (by kernel_rfl) ([.int .i64 k0, .int .i64 k1]) (by kernel_rfl) (Wk.range_sub 3 [.int .i64 k0, .int .i64 k1] (Wk.Chg.hp ch44 hb3 (Mur.off_iff.2 (fun t ht => by have := hM t ht; omega))) rfl)) ?_
                      refine Wk.rCall 3 (some 158) 18 [.tmp 155, .tmp 157] #[42, 27] [.pointer (some ⟨W1.heap.size, 0, none⟩), .agg #[.int .i64 k0, .int .i64 k1]] rfl rfl (by kernel_rfl) rfl (by kernel_rfl) (by kernel_rfl) ?_
                      refine (RCrash_any W1.heap.size d _ k0 k1 W48 ⟨⟨_, _, _, _, _, _, hR55, rfl⟩⟩ hkd.1.2 hkd.2.2 hkd.1.1 hkd.2.1).mono ?_
                      rintro _ W49 ⟨_, rfl, ⟨RA7, rn7, rc7, RA8, rn8, rc8, hR56, rfl⟩, ch45, no14⟩
                      have zz49 := ch45.size
                      have hM19 := Mur.Ref.mem hR56
                      have hD58 := Mur.DskF.chg hD57 ch45 (fun s hs hl => ⟨fun e => jj17 s hs (by rw [e]; exact Mur.Ref.self), trivial⟩)
                      have jj18 := Mur.Dj.step2 jj17 no14 hM18 (by omega)
                      refine ⟨_, rfl, ?_⟩
                      refine Wk.rEnd 4 rfl ?_
                      refine Wk.inN ?_
                      refine Wk.nxt ?_
                      have kk88 := Wk.Chg.step HB ch4 trivial
                      have kk89 := Wk.Chg.step kk88 ch5 ⟨.inr (by omega), trivial⟩
                      have kk90 := Wk.Chg.step kk89 ch44 (Mur.newOr_iff.2 (fun t ht => .inr (by have := hM t ht; omega)))
                      have kk91 := Wk.Chg.step kk90 ch45 ⟨.inr (by omega), trivial⟩
                      exact ⟨gd, FF11, (Mur.Dk.crash d k0 k1), RA7, rn7, rc7, RA8, rn8, rc8, gt, 0, by kernel_rfl, hD58, hR56, jj18, (by omega), kk91, (by omega)⟩
                    · refine Wk.rPure 0 (some 150) (.bool false) rfl rfl (by kernel_rfl) (Wk.boolF (b := (kd == (4 : Int))) (beq_eq_false_iff_ne.2 (by first | exact hx15 | omega)) (by kernel_rfl)) ?_
                      refine Wk.rPure 1 (some 149) (.bool false) rfl rfl (by kernel_rfl) (by kernel_rfl) ?_
                      refine Wk.rEnd 2 rfl ?_
                      refine Wk.nxt ?_
                      refine wp_cond_false (by kernel_rfl) ?_
                      refine wp_seq ?_
                      refine Wk.reg ?_
                      by_cases hx16 : kd = (5 : Int)
                      · refine Wk.rPure 0 (some 160) (.bool true) rfl rfl (by kernel_rfl) (Wk.boolT (b := (kd == (5 : Int))) (beq_iff_eq.2 (by first | exact hx16 | omega)) (by kernel_rfl)) ?_
                        refine Wk.rPure 1 (some 159) (.bool true) rfl rfl (by kernel_rfl) (by kernel_rfl) ?_
                        refine Wk.rEnd 2 rfl ?_
                        refine Wk.nxt ?_
                        refine wp_cond_true (by kernel_rfl) ?_
                        refine wp_seq ?_
                        refine Wk.reg ?_
                        refine Wk.rPure 0 (some 9) (.int .i64 0) rfl rfl (by kernel_rfl) (by kernel_rfl) ?_
                        refine Wk.rEnd 1 rfl ?_
                        refine Wk.nxt ?_
                        refine wp_seq ?_
                        refine Wk.reg ?_
                        refine Wk.rPure 0 (some 161) (.pointer (some ⟨gd, 0, none⟩)) rfl rfl (by kernel_rfl) (by kernel_rfl) ?_
                        refine Wk.rCall 1 (some 162) 19 [.tmp 161] #[23] [.pointer (some ⟨gd, 0, none⟩)] rfl rfl (by kernel_rfl) rfl (by kernel_rfl) (by kernel_rfl) ?_
                        have hD59 := Mur.DskF.chg hD ch4 (fun s hs hl => trivial)
                        have hD60 := Mur.DskF.chg hD59 ch5 (fun s hs hl => ⟨by have := hM s hs; omega, trivial⟩)
                        refine (Copy_any gd d F W6 hD60).mono ?_
                        rintro _ W50 ⟨FF12, rfl, hD61, ch46⟩
                        have hM20 := Mur.DskF.mem hD61
                        have zz50 : W6.heap.size < W50.heap.size := Mur.DskF.lt hD61
                        have zz51 := ch46.size
                        refine ⟨_, rfl, ?_⟩
                        refine Wk.rPure 2 (some 13) (.pointer (some ⟨W6.heap.size, 0, none⟩)) rfl rfl (by kernel_rfl) (by kernel_rfl) ?_
                        refine Wk.rEnd 3 rfl ?_
                        refine Wk.nxt ?_
                        refine wp_seq ?_
                        refine Wk.reg ?_
                        have hD62 := Mur.DskF.chg hD60 ch46 (fun s hs hl => trivial)
                        have jj19 : Mur.Dj F FF12 := fun s h1 h2 => by have := hM s h1; have := hM20 s h2; omega
                        refine Wk.rPure 0 (some 163) (.pointer (some ⟨gd, 0, none⟩)) rfl rfl (by kernel_rfl) (by kernel_rfl) ?_
                        refine Wk.rCall 1 (some 164) 12 [.tmp 163, .const (.int .i64 0)] #[23, 3] [.pointer (some ⟨gd, 0, none⟩), .int .i64 0] rfl rfl (by kernel_rfl) rfl (by kernel_rfl) (by kernel_rfl) ?_
                        have hR57 := Mur.Ref.chg hR ch4 (fun s hs hl => trivial)
                        have hR58 := Mur.Ref.chg hR57 ch5 (fun s hs hl => ⟨by have := hMR s hs; omega, trivial⟩)
                        have hR59 := Mur.Ref.chg hR58 ch46 (fun s hs hl => trivial)
                        refine (Clear_any gd d F 0 W50 hD62).mono ?_
                        rw [show fE 0 = 0 from by decide]
                        rintro _ W51 ⟨FF13, rfl, hD63, ch47, no15⟩
                        have hM21 := Mur.DskF.mem hD63
                        have zz52 := ch47.size
                        have hR60 := Mur.Ref.chg hR59 ch47 (fun s hs hl => Mur.Dj.off1 hJ hs)
                        have jj20 := Mur.Dj.step1 hJ no15 hMR (by omega)
                        have hD64 := Mur.DskF.chg hD61 ch47 (fun s hs hl => Mur.Dj.off1 jj19 hs)
                        have jj21 := Mur.Dj.step1 jj19 no15 hM20 (by omega)
                        refine ⟨_, rfl, ?_⟩
                        refine Wk.rEnd 2 rfl ?_
                        refine Wk.nxt ?_
                        refine wp_seq ?_
                        refine Wk.reg ?_
                        refine Wk.rPure 0 (some 165) (.pointer (some ⟨gd, 0, none⟩)) rfl rfl (by kernel_rfl) (by kernel_rfl) ?_
                        refine Wk.rEx 1 (some 166) _ rfl rfl (by kernel_rfl) (Wk.new_ex (.slice (some ⟨W51.heap.size, 0, none⟩) 1 1) #[.int .u8 9] 5 (by kernel_rfl)) ?_
                        rintro _ W52 ⟨rfl, hb15, ch48, sz15⟩
                        have zz53 := ch48.size
                        refine Wk.rCall 2 (some 167) 10 [.tmp 165, .const (.int .i64 1), .tmp 166] #[23, 3, 26] [.pointer (some ⟨gd, 0, none⟩), .int .i64 1, .slice (some ⟨W51.heap.size, 0, none⟩) 1 1] rfl rfl (by kernel_rfl) rfl (by kernel_rfl) (by kernel_rfl) ?_
                        have hD65 := Mur.DskF.chg hD63 ch48 (fun s hs hl => trivial)
                        have hD66 := Mur.DskF.chg hD64 ch48 (fun s hs hl => trivial)
                        have hR61 := Mur.Ref.chg hR60 ch48 (fun s hs hl => trivial)
                        refine (Append_any gd (Mur.Dk.clear d 0) FF13 1 (some ⟨W51.heap.size, 0, none⟩) 1 1 ([9]) W52 hD65 (Mur.byt_row [9] hb15) (fun h => by cases h)).mono ?_
                        rintro _ W53 ⟨FF14, rfl, hD67, ch49, no16⟩
                        have hM22 := Mur.DskF.mem hD67
                        have zz54 := ch49.size
                        have hR62 := Mur.Ref.chg hR61 ch49 (fun s hs hl => Mur.Dj.off1 jj20 hs)
                        have jj22 := Mur.Dj.step1 jj20 no16 hMR (by omega)
                        have hD68 := Mur.DskF.chg hD66 ch49 (fun s hs hl => Mur.Dj.off1 jj21 hs)
                        have jj23 := Mur.Dj.step1 jj21 no16 hM20 (by omega)
                        refine ⟨_, rfl, ?_⟩
                        refine Wk.rEnd 3 rfl ?_
                        refine Wk.nxt ?_
                        refine wp_seq ?_
                        refine Wk.reg ?_
                        refine Wk.rPure 0 (some 168) (.pointer (some ⟨gd, 0, none⟩)) rfl rfl (by kernel_rfl) (by kernel_rfl) ?_
                        refine Wk.rPure 1 (some 169) (.agg #[.int .i64 9, .int .i64 9]) rfl rfl (by kernel_rfl) (by kernel_rfl) ?_
                        refine Wk.rCall 2 (some 170) 15 [.tmp 168, .tmp 169] #[23, 27] [.pointer (some ⟨gd, 0, none⟩), .agg #[.int .i64 9, .int .i64 9]] rfl rfl (by kernel_rfl) rfl (by kernel_rfl) (by kernel_rfl) ?_
                        refine (Crash_any gd (Mur.Dk.app (Mur.Dk.clear d 0) 1 ([9])) FF14 9 9 W53 hD67).mono ?_
                        rintro _ W54 ⟨FF15, rfl, hD69, ch50, no17⟩
                        have hM23 := Mur.DskF.mem hD69
                        have zz55 := ch50.size
                        have hR63 := Mur.Ref.chg hR62 ch50 (fun s hs hl => Mur.Dj.off1 jj22 hs)
                        have jj24 := Mur.Dj.step1 jj22 no17 hMR (by omega)
                        have hD70 := Mur.DskF.chg hD68 ch50 (fun s hs hl => Mur.Dj.off1 jj23 hs)
                        have jj25 := Mur.Dj.step1 jj23 no17 hM20 (by omega)
                        refine ⟨_, rfl, ?_⟩
                        refine Wk.rEnd 3 rfl ?_
                        refine Wk.nxt ?_
                        refine wp_seq ?_
                        refine wp_seq ?_
                        refine Wk.reg ?_
                        refine Wk.rPure 0 (some 171) (.pointer (some ⟨W6.heap.size, 0, none⟩)) rfl rfl (by kernel_rfl) (by kernel_rfl) ?_
                        refine Wk.rPure 1 (some 172) (.bool false) rfl rfl (by kernel_rfl) (by kernel_rfl) ?_
                        refine Wk.rEnd 2 rfl ?_
                        refine Wk.nxt ?_
                        refine wp_cond_false (by kernel_rfl) ?_
                        refine wp_skip ?_
                        refine Wk.nxt ?_
                        refine Wk.reg ?_
                        have jj26 : Mur.Dj FF12 (W1.heap.size :: (Mur.ablk A0 ++ Mur.ablk A1)) := fun s h1 h2 => by have := hM20 s h1; have := hMR s h2; omega
                        refine Wk.rPure 0 (some 173) (.pointer (some ⟨W6.heap.size, 0, none⟩)) rfl rfl (by kernel_rfl) (by kernel_rfl) ?_
                        refine Wk.rPure 1 (some 3) (.pointer (some ⟨W6.heap.size, 0, none⟩)) rfl rfl (by kernel_rfl) (by kernel_rfl) ?_
                        refine Wk.rEnd 2 rfl ?_
                        refine Wk.inN ?_
                        refine Wk.nxt ?_
                        have kk92 := Wk.Chg.step HB ch4 trivial
                        have kk93 := Wk.Chg.step kk92 ch5 ⟨.inr (by omega), trivial⟩
                        have kk94 := Wk.Chg.step kk93 ch46 trivial
                        have kk95 := Wk.Chg.step kk94 ch47 (Mur.newOr_iff.2 (fun t ht => .inr (by have := hM t ht; omega)))
                        have kk96 := Wk.Chg.step kk95 ch48 trivial
                        have kk97 := Wk.Chg.step kk96 ch49 (Mur.newOr_iff.2 (fun t ht => .inr (by have := hM21 t ht; omega)))
                        have kk98 := Wk.Chg.step kk97 ch50 (Mur.newOr_iff.2 (fun t ht => .inr (by have := hM22 t ht; omega)))
                        exact ⟨W6.heap.size, FF12, d, A0, n0, c0, A1, n1, c1, gt, 0, by kernel_rfl, hD70, hR63, jj26, (by omega), kk98, (by omega)⟩
                      · refine Wk.rPure 0 (some 160) (.bool false) rfl rfl (by kernel_rfl) (Wk.boolF (b := (kd == (5 : Int))) (beq_eq_false_iff_ne.2 (by first | exact hx16 | omega)) (by kernel_rfl)) ?_
                        refine Wk.rPure 1 (some 159) (.bool false) rfl rfl (by kernel_rfl) (by kernel_rfl) ?_
                        refine Wk.rEnd 2 rfl ?_
                        refine Wk.nxt ?_
                        refine wp_cond_false (by kernel_rfl) ?_
                        refine Wk.reg ?_
                        refine Wk.rPure 0 (some 9) (.int .i64 0) rfl rfl (by kernel_rfl) (by kernel_rfl) ?_
                        refine Wk.rEnd 1 rfl ?_
                        refine Wk.inN ?_
                        refine Wk.nxt ?_
                        have hD71 := Mur.DskF.chg hD ch4 (fun s hs hl => trivial)
                        have hD72 := Mur.DskF.chg hD71 ch5 (fun s hs hl => ⟨by have := hM s hs; omega, trivial⟩)
                        have hR64 := Mur.Ref.chg hR ch4 (fun s hs hl => trivial)
                        have hR65 := Mur.Ref.chg hR64 ch5 (fun s hs hl => ⟨by have := hMR s hs; omega, trivial⟩)
                        have kk99 := Wk.Chg.step HB ch4 trivial
                        have kk100 := Wk.Chg.step kk99 ch5 ⟨.inr (by omega), trivial⟩
                        exact ⟨gd, F, d, A0, n0, c0, A1, n1, c1, gt, 0, by kernel_rfl, hD72, hR65, hJ, (by omega), kk100, (by omega)⟩
          · rintro aa8 W55 ⟨gd2, F2, d2, A02, n02, c02, A12, n12, c12, gt2, ev2, hF8, hD2, hR2, hJ2, hgt2, HB2, hgw2⟩
            generalize aa8.tmps = bb8 at hF8
            subst hF8
            have hHBz2 := HB2.size
            have hM2 := Mur.DskF.mem hD2
            have hMR2 := Mur.Ref.mem hR2
            have hgl2 := Mur.DskF.lt hD2
            have hgr2 := hMR2 _ Mur.Ref.self
            have hkd2 := Mur.DskF.ok hD2
            have hkx2 := hkd2.1.2
            have hky2 := hkd2.2.2
            refine Wk.nxt ?_
            refine wp_seq ?_
            refine wp_seq ?_
            refine Wk.reg ?_
            refine Wk.rPure 0 (some 174) (.int .i64 ev2) rfl rfl (by kernel_rfl) (by kernel_rfl) ?_
            refine Wk.rPure 1 (some 175) (.int .i64 ev2) rfl rfl (by kernel_rfl) (by kernel_rfl) ?_
            refine Wk.rPure 2 (some 176) (.bool false) rfl rfl (by kernel_rfl) (Wk.boolF (b := (ev2 != ev2)) (bne_eq_false_iff_eq.2 (rfl)) (by kernel_rfl)) ?_
            refine Wk.rEnd 3 rfl ?_
            refine Wk.nxt ?_
            refine wp_cond_false (by kernel_rfl) ?_
            refine wp_skip ?_
            refine Wk.nxt ?_
            refine wp_seq ?_
            refine Wk.reg ?_
            refine Wk.rPure 0 (some 14) (.int .i64 (-1)) rfl rfl (by kernel_rfl) (by kernel_rfl) ?_
            refine Wk.rEnd 1 rfl ?_
            refine Wk.nxt ?_
            refine wp_block ?_
            refine Wk.loopN 5 ?_
            refine Wk.rdS ?_
            refine wp_seq ?_
            refine wp_seq ?_
            refine Wk.reg ?_
            refine Wk.rPure 0 (some 177) (.int .i64 (-1)) rfl rfl (by kernel_rfl) (by kernel_rfl) ?_
            refine Wk.rPure 1 (some 178) (.bool true) rfl rfl (by kernel_rfl) (Wk.boolT (b := decide ((-1 : Int) < (3 : Int))) (decide_eq_true (by decide)) (by kernel_rfl)) ?_
            refine Wk.rEnd 2 rfl ?_
            refine Wk.nxt ?_
            refine wp_cond_true (by kernel_rfl) ?_
            refine wp_skip ?_
            refine Wk.nxt ?_
            refine wp_seq ?_
            refine wp_block ?_
            refine wp_seq ?_
            refine Wk.reg ?_
            refine Wk.rPure 0 (some 181) (.pointer (some ⟨gd2, 0, none⟩)) rfl rfl (by kernel_rfl) (by kernel_rfl) ?_
            refine Wk.rPure 1 (some 182) (.int .i64 (-1)) rfl rfl (by kernel_rfl) (by kernel_rfl) ?_
            refine Wk.rCall 2 (some 183) 13 [.tmp 181, .tmp 182] #[23, 3] [.pointer (some ⟨gd2, 0, none⟩), .int .i64 (-1)] rfl rfl (by kernel_rfl) rfl (by kernel_rfl) (by kernel_rfl) ?_
            refine (Bytes_any gd2 d2 F2 (-1) W55 hD2).mono ?_
            rw [show Mur.Dk.bytes d2 (-1) = [] from if_neg (by decide)]
            rintro _ W56 ⟨vv1, rfl, HO1, ch51⟩
            obtain ⟨AA4, nn4, rfl, hcc1, hmm5, hN1, HS1, hl1⟩ := Wk.own_sl HO1
            have hB2 : Byt W56 AA4 ([] : List UInt8).length ([] : List UInt8) := by obtain ⟨_, _, e_, _, _, hq⟩ := Mur.own_byt HO1; cases e_; exact hq
            have zz56 := ch51.size
            have ow19 := Mur.own8 HO1
            refine ⟨_, rfl, ?_⟩
            refine Wk.rPure 3 (some 15) (.slice AA4 (([] : List UInt8).length) nn4) rfl rfl (by kernel_rfl) (by kernel_rfl) ?_
            refine Wk.rEnd 4 rfl ?_
            refine Wk.nxt ?_
            refine wp_seq ?_
            refine wp_seq ?_
            refine Wk.reg ?_
            refine Wk.rPure 0 (some 184) (.int .i64 (-1)) rfl rfl (by kernel_rfl) (by kernel_rfl) ?_
            refine Wk.rCall 1 (some 185) 16 [.tmp 184] #[3] [.int .i64 (-1)] rfl rfl (by kernel_rfl) rfl (by kernel_rfl) (by kernel_rfl) ?_
            refine (Has_any (-1) W56).mono ?_
            rw [decide_eq_false ((by decide) : ¬ hasF (-1))]
            rintro _ _ ⟨rfl, rfl⟩
            refine ⟨_, rfl, ?_⟩
            refine Wk.rPure 2 (some 186) (.bool true) rfl rfl (by kernel_rfl) (by kernel_rfl) ?_
            refine Wk.rEnd 3 rfl ?_
            refine Wk.nxt ?_
            refine wp_cond_true (by kernel_rfl) ?_
            refine wp_seq ?_
            refine wp_seq ?_
            refine Wk.reg ?_
            refine Wk.rPure 0 (some 187) (.slice AA4 (([] : List UInt8).length) nn4) rfl rfl (by kernel_rfl) (by kernel_rfl) ?_
            refine Wk.rPure 1 (some 188) (.int .i64 ((([] : List UInt8).length : Nat) : Int)) rfl rfl (by kernel_rfl) (by kernel_rfl) ?_
            refine Wk.rPure 2 (some 189) (.bool false) rfl rfl (by kernel_rfl) (Wk.boolF (b := decide (((([] : List UInt8).length : Nat) : Int) > (0 : Int))) (decide_eq_false (by decide)) (by kernel_rfl)) ?_
            refine Wk.rPure 3 (some 190) (.bool false) rfl rfl (by kernel_rfl) (by kernel_rfl) ?_
            refine Wk.rPure 4 (some 191) (.pointer (some ⟨gd2, 0, none⟩)) rfl rfl (by kernel_rfl) (by kernel_rfl) ?_
            refine Wk.rPure 5 (some 192) (.int .i64 (-1)) rfl rfl (by kernel_rfl) (by kernel_rfl) ?_
            refine Wk.rCall 6 (some 193) 14 [.tmp 191, .tmp 192] #[23, 3] [.pointer (some ⟨gd2, 0, none⟩), .int .i64 (-1)] rfl rfl (by kernel_rfl) rfl (by kernel_rfl) (by kernel_rfl) ?_
            have hD73 := Mur.DskF.chg hD2 ch51 (fun s hs hl => trivial)
            refine (Synced_any gd2 d2 F2 (-1) W56 hD73).mono ?_
            rw [show Mur.Dk.synced d2 (-1) = 0 from if_neg (by decide)]
            rintro _ _ ⟨rfl, rfl⟩
            refine ⟨_, rfl, ?_⟩
            refine Wk.rPure 7 (some 194) (.bool false) rfl rfl (by kernel_rfl) (Wk.boolF (b := ((0 : Int) != (0 : Int))) (bne_eq_false_iff_eq.2 (by decide)) (by kernel_rfl)) ?_
            refine Wk.rPure 8 (some 195) (.bool false) rfl rfl (by kernel_rfl) (by kernel_rfl) ?_
            refine Wk.rEnd 9 rfl ?_
            refine Wk.nxt ?_
            refine wp_cond_false (by kernel_rfl) ?_
            refine wp_skip ?_
            refine Wk.nxt ?_
            refine wp_exit ?_
            refine Wk.thX ?_
            refine Wk.inX ?_
            refine Wk.nxt ?_
            refine Wk.reg ?_
            refine Wk.rPure 0 (some 179) (.int .i64 (-1)) rfl rfl (by kernel_rfl) (by kernel_rfl) ?_
            refine Wk.rPure 1 (some 180) (.int .i64 0) rfl rfl (by kernel_rfl) (Wk.int64 (n := (-1) + 1) (z := 0) (by omega) (by omega) (by omega) (by kernel_rfl)) ?_
            refine Wk.rPure 2 (some 14) (.int .i64 0) rfl rfl (by kernel_rfl) (by kernel_rfl) ?_
            refine Wk.rEnd 3 rfl ?_
            refine Wk.nxt ?_
            refine Wk.rdS ?_
            refine wp_seq ?_
            refine wp_seq ?_
            refine Wk.reg ?_
            refine Wk.rPure 0 (some 177) (.int .i64 0) rfl rfl (by kernel_rfl) (by kernel_rfl) ?_
            refine Wk.rPure 1 (some 178) (.bool true) rfl rfl (by kernel_rfl) (Wk.boolT (b := decide ((0 : Int) < (3 : Int))) (decide_eq_true (by decide)) (by kernel_rfl)) ?_
            refine Wk.rEnd 2 rfl ?_
            refine Wk.nxt ?_
            refine wp_cond_true (by kernel_rfl) ?_
            refine wp_skip ?_
            refine Wk.nxt ?_
            refine wp_seq ?_
            refine wp_block ?_
            refine wp_seq ?_
            refine Wk.reg ?_
            refine Wk.rPure 0 (some 181) (.pointer (some ⟨gd2, 0, none⟩)) rfl rfl (by kernel_rfl) (by kernel_rfl) ?_
            refine Wk.rPure 1 (some 182) (.int .i64 0) rfl rfl (by kernel_rfl) (by kernel_rfl) ?_
            refine Wk.rCall 2 (some 183) 13 [.tmp 181, .tmp 182] #[23, 3] [.pointer (some ⟨gd2, 0, none⟩), .int .i64 0] rfl rfl (by kernel_rfl) rfl (by kernel_rfl) (by kernel_rfl) ?_
            refine (Bytes_any gd2 d2 F2 0 W56 hD73).mono ?_
            rw [show Mur.Dk.bytes d2 0 = d2.x.b from rfl]
            rintro _ W57 ⟨vv2, rfl, HO2, ch52⟩
            obtain ⟨AA5, nn5, rfl, hcc2, hmm6, hN2, HS2, hl2⟩ := Wk.own_sl HO2
            have hB3 : Byt W57 AA5 d2.x.b.length d2.x.b := by obtain ⟨_, _, e_, _, _, hq⟩ := Mur.own_byt HO2; cases e_; exact hq
            have zz57 := ch52.size
            have ow20 := Mur.own8 HO2
            refine ⟨_, rfl, ?_⟩
            refine Wk.rPure 3 (some 15) (.slice AA5 d2.x.b.length nn5) rfl rfl (by kernel_rfl) (by kernel_rfl) ?_
            refine Wk.rEnd 4 rfl ?_
            refine Wk.nxt ?_
            refine wp_seq ?_
            refine wp_seq ?_
            refine Wk.reg ?_
            refine Wk.rPure 0 (some 184) (.int .i64 0) rfl rfl (by kernel_rfl) (by kernel_rfl) ?_
            refine Wk.rCall 1 (some 185) 16 [.tmp 184] #[3] [.int .i64 0] rfl rfl (by kernel_rfl) rfl (by kernel_rfl) (by kernel_rfl) ?_
            refine (Has_any 0 W57).mono ?_
            rw [decide_eq_true ((by decide) : hasF 0)]
            rintro _ _ ⟨rfl, rfl⟩
            refine ⟨_, rfl, ?_⟩
            refine Wk.rPure 2 (some 186) (.bool false) rfl rfl (by kernel_rfl) (by kernel_rfl) ?_
            refine Wk.rEnd 3 rfl ?_
            refine Wk.nxt ?_
            refine wp_cond_false (by kernel_rfl) ?_
            refine wp_skip ?_
            refine Wk.nxt ?_
            refine wp_seq ?_
            refine wp_seq ?_
            refine Wk.dReg ([]) (by kernel_rfl) ?_
            intro W58 ch53 sz16
            have zz58 := ch53.size
            have sS20 : Wk.Chg ([]) W58 W58 := (Wk.Chg.refl _).more (by simp)
            refine Wk.dVal 0 (some 196) (.slice AA5 d2.x.b.length nn5) rfl rfl (by kernel_rfl) (by kernel_rfl) (by kernel_rfl) (fun _ _ _ h => h) (by kernel_rfl) (fun w' hw' => by kernel_rfl) sS20 ?_
            refine Wk.dVal 1 (some 197) (.string (Mur.str d2.x.b)) rfl rfl (by kernel_rfl) (by kernel_rfl) (by kernel_rfl) (fun _ _ _ h => h) (by kernel_rfl) (fun w' hw' => (Mur.run_str 26 9 (.tmp 196) 5 rfl Try.underlying26 Try.underlying5 Try.underlying9 AA5 d2.x.b.length nn5 d2.x.b (by kernel_rfl) (Mur.byt_chg (Mur.byt_chg ow20.byt ch53 (fun g off e hl => trivial)) hw' (fun g off e hl => trivial)))) sS20 ?_
            refine Wk.dVal 2 (some 198) (.pointer (some ⟨W1.heap.size, 0, none⟩)) rfl rfl (by kernel_rfl) (by kernel_rfl) (by kernel_rfl) (fun _ _ _ h => h) (by kernel_rfl) (fun w' hw' => by kernel_rfl) sS20 ?_
            refine Wk.dVal 3 (some 199) (.int .i64 0) rfl rfl (by kernel_rfl) (by kernel_rfl) (by kernel_rfl) (fun _ _ _ h => h) (by kernel_rfl) (fun w' hw' => by kernel_rfl) sS20 ?_
            refine Wk.dVal 4 (some 200) (.pointer (some ⟨W1.heap.size, 0, none⟩)) rfl rfl (by kernel_rfl) (by kernel_rfl) (by kernel_rfl) (fun _ _ _ h => h) (by kernel_rfl) (fun w' hw' => by kernel_rfl) sS20 ?_
            refine Wk.dVal 5 (some 201) (.pointer (some ⟨W1.heap.size, 0, none⟩)) rfl rfl (by kernel_rfl) (by kernel_rfl) (by kernel_rfl) (fun _ _ _ h => h) (by kernel_rfl) (fun w' hw' => by kernel_rfl) sS20 ?_
            refine Wk.dVal 6 (some 202) (.pointer (some ⟨W1.heap.size, 0, none⟩)) rfl rfl (by kernel_rfl) (by kernel_rfl) (by kernel_rfl) (fun _ _ _ h => h) (by kernel_rfl) (fun w' hw' => (Wk.index_arr 43 26 (.tmp 201) (.tmp 199) rfl 2 Try.underlying43 1 (by kernel_rfl) W1.heap.size 0 0 .i64 (by kernel_rfl) (by kernel_rfl) (by decide))) sS20 ?_
            refine Wk.dVal 7 (some 203) (.slice A02 n02 c02) rfl rfl (by kernel_rfl) (by kernel_rfl) (by kernel_rfl) (fun _ _ _ h => h) (by kernel_rfl) (fun w' hw' => (Wk.load1 26 (.tmp 202) rfl (by kernel_rfl) ⟨W1.heap.size, 0, none⟩ (by kernel_rfl) (.slice A02 n02 c02) ((cell_of_row _ _ 0 _ _ _ (Wk.Chg.hp hw' (Wk.Chg.hp ch53 (Wk.Chg.hp ch52 (Wk.Chg.hp ch51 hR2.hp trivial) trivial) trivial) trivial)).trans rfl))) sS20 ?_
            refine Wk.dVal 8 (some 204) (.string (Mur.str d2.x.b)) rfl rfl (by kernel_rfl) (by kernel_rfl) (by kernel_rfl) (fun _ _ _ h => h) (by kernel_rfl) (fun w' hw' => (Mur.run_str 26 9 (.tmp 203) 5 rfl Try.underlying26 Try.underlying5 Try.underlying9 A02 n02 c02 d2.x.b (by kernel_rfl) (Mur.byt_chg (Mur.byt_chg (Mur.byt_chg (Mur.byt_chg hR2.b0 ch51 (fun g off e hl => trivial)) ch52 (fun g off e hl => trivial)) ch53 (fun g off e hl => trivial)) hw' (fun g off e hl => trivial)))) sS20 ?_
            refine Wk.dVal 9 (some 205) (.bool false) rfl rfl (by kernel_rfl) (by kernel_rfl) (by kernel_rfl) (fun _ _ _ h => h) (by kernel_rfl) (fun w' hw' => (Wk.boolF (b := decide (d2.x.b ≠ d2.x.b)) (decide_eq_false (fun h => h rfl)) (Mur.strne 9 9 (.tmp 197) (.tmp 204) rfl d2.x.b d2.x.b (by kernel_rfl) (by kernel_rfl)))) sS20 ?_
            refine Wk.dVal 10 (some 206) (.bool false) rfl rfl (by kernel_rfl) (by kernel_rfl) (by kernel_rfl) (fun _ _ _ h => h) (by kernel_rfl) (fun w' hw' => by kernel_rfl) sS20 ?_
            refine Wk.dVal 11 (some 207) (.pointer (some ⟨gd2, 0, none⟩)) rfl rfl (by kernel_rfl) (by kernel_rfl) (by kernel_rfl) (fun _ _ _ h => h) (by kernel_rfl) (fun w' hw' => by kernel_rfl) sS20 ?_
            refine Wk.dVal 12 (some 208) (.int .i64 0) rfl rfl (by kernel_rfl) (by kernel_rfl) (by kernel_rfl) (fun _ _ _ h => h) (by kernel_rfl) (fun w' hw' => by kernel_rfl) sS20 ?_
            refine Wk.dVal 14 (some 210) (.pointer (some ⟨W1.heap.size, 0, none⟩)) rfl rfl (by kernel_rfl) (by kernel_rfl) (by kernel_rfl) (fun _ _ _ h => h) (by kernel_rfl) (fun w' hw' => by kernel_rfl) sS20 ?_
            refine Wk.dVal 15 (some 211) (.int .i64 0) rfl rfl (by kernel_rfl) (by kernel_rfl) (by kernel_rfl) (fun _ _ _ h => h) (by kernel_rfl) (fun w' hw' => by kernel_rfl) sS20 ?_
            refine Wk.dVal 16 (some 212) (.pointer (some ⟨W1.heap.size, 0, none⟩)) rfl rfl (by kernel_rfl) (by kernel_rfl) (by kernel_rfl) (fun _ _ _ h => h) (by kernel_rfl) (fun w' hw' => by kernel_rfl) sS20 ?_
            refine Wk.dVal 17 (some 213) (.pointer (some ⟨W1.heap.size, 2, none⟩)) rfl rfl (by kernel_rfl) (by kernel_rfl) (by kernel_rfl) (fun _ _ _ h => h) (by kernel_rfl) (fun w' hw' => by kernel_rfl) sS20 ?_
            refine Wk.dVal 18 (some 214) (.pointer (some ⟨W1.heap.size, 2, none⟩)) rfl rfl (by kernel_rfl) (by kernel_rfl) (by kernel_rfl) (fun _ _ _ h => h) (by kernel_rfl) (fun w' hw' => (Wk.index_arr 27 3 (.tmp 213) (.tmp 211) rfl 2 Try.underlying27 1 (by kernel_rfl) W1.heap.size 2 0 .i64 (by kernel_rfl) (by kernel_rfl) (by decide))) sS20 ?_
            refine Wk.dVal 19 (some 215) (.int .i64 ((d2.x.n : Nat) : Int)) rfl rfl (by kernel_rfl) (by kernel_rfl) (by kernel_rfl) (fun _ _ _ h => h) (by kernel_rfl) (fun w' hw' => (Wk.load1 3 (.tmp 214) rfl (by kernel_rfl) ⟨W1.heap.size, 2, none⟩ (by kernel_rfl) (.int .i64 ((d2.x.n : Nat) : Int)) ((cell_of_row _ _ 2 _ _ _ (Wk.Chg.hp hw' (Wk.Chg.hp ch53 (Wk.Chg.hp ch52 (Wk.Chg.hp ch51 hR2.hp trivial) trivial) trivial) trivial)).trans rfl))) sS20 ?_
            refine Wk.dOp 13 (by kernel_rfl) ?_
            refine Wk.oCall (some 209) 14 [.tmp 207, .tmp 208] #[23, 3] [.pointer (some ⟨gd2, 0, none⟩), .int .i64 0] rfl rfl (by kernel_rfl) rfl (by kernel_rfl) (by kernel_rfl) ?_
            have hD74 := Mur.DskF.chg hD73 ch52 (fun s hs hl => trivial)
            have hD75 := Mur.DskF.chg hD74 ch53 (fun s hs hl => trivial)
            refine (Synced_any gd2 d2 F2 0 W58 hD75).mono ?_
            rw [show Mur.Dk.synced d2 0 = d2.x.n from rfl]
            rintro _ _ ⟨rfl, rfl⟩
            refine ⟨_, rfl, sS20, ?_⟩
            refine Wk.dVal 20 (some 216) (.bool false) rfl rfl (by kernel_rfl) (by kernel_rfl) (by kernel_rfl) (fun _ _ _ h => h) (by kernel_rfl) (fun w' hw' => (Wk.boolF (b := (((d2.x.n : Nat) : Int) != ((d2.x.n : Nat) : Int))) (bne_eq_false_iff_eq.2 (rfl)) (by kernel_rfl))) sS20 ?_
            refine Wk.dVal 21 (some 217) (.bool false) rfl rfl (by kernel_rfl) (by kernel_rfl) (by kernel_rfl) (fun _ _ _ h => h) (by kernel_rfl) (fun w' hw' => by kernel_rfl) sS20 ?_
            refine Wk.dEnd (by kernel_rfl) ?_
            refine Wk.nxt ?_
            refine wp_cond_false (by kernel_rfl) ?_
            refine wp_skip ?_
            refine Wk.nxt ?_
            refine wp_seq ?_
            refine Wk.reg ?_
            refine Wk.rPure 0 (some 218) (.slice AA5 d2.x.b.length nn5) rfl rfl (by kernel_rfl) (by kernel_rfl) ?_
            refine Wk.rPure 1 (some 219) (.int .i64 ((d2.x.b.length : Nat) : Int)) rfl rfl (by kernel_rfl) (by kernel_rfl) ?_
            refine Wk.rPure 2 (some 220) (.int .i64 0) rfl rfl (by kernel_rfl) (by kernel_rfl) ?_
            refine Wk.rEnd 3 rfl ?_
            refine Wk.nxt ?_
            refine wp_block ?_
            have ow21 := Mur.own8 (Wk.own_chg ow20.own ch53 (fun q e _ _ => trivial))
            have kk101 := Wk.Chg.step HB2 ch51 trivial
            have kk102 := Wk.Chg.step kk101 ch52 trivial
            have kk103 := Wk.Chg.step kk102 ch53 trivial
            have hR66 := Mur.Ref.chg hR2 ch51 (fun s hs hl => trivial)
            have hR67 := Mur.Ref.chg hR66 ch52 (fun s hs hl => trivial)
            have hR68 := Mur.Ref.chg hR67 ch53 (fun s hs hl => trivial)
            refine Wk.loop (fun m_ a wr => ∃ (iw : Nat) (lw : List UInt8), m_ = d2.x.b.length - iw ∧ a = Plays_F6 a.tmps (.pointer (some ⟨gd2, 0, none⟩)) (.pointer (some ⟨W1.heap.size, 0, none⟩)) (.int .i64 gt2) (.int .i64 0) (.slice AA5 d2.x.b.length nn5) (.slice (some ⟨g, off, none⟩) n c) (.int .i64 ((n : Nat) : Int)) (.int .i64 ((k : Nat) : Int)) (.int .i64 ((d2.x.b.length : Nat) : Int)) (.int .i64 ((iw : Nat) : Int)) ∧ iw ≤ d2.x.b.length ∧ Mur.Own8 wr W56.heap.size 5 AA5 d2.x.b.length nn5 lw ∧ Wk.Chg (Wk.blk (.slice AA5 d2.x.b.length nn5)) W58 wr) (d2.x.b.length - 0) ?_ ?_
            · refine ⟨0, d2.x.b, rfl, by kernel_rfl, Nat.zero_le _, ow21, (Wk.Chg.refl _).more (by simp)⟩
            · rintro mm5 aa9 W59 ⟨iw, lw, hmm7, hF9, hiw, hW, hC⟩
              generalize aa9.tmps = bb9 at hF9
              subst hF9
              have hlw := hW.byt.1
              by_cases hltw : iw < d2.x.b.length
              · obtain ⟨qw, hqw_, hqwb, hqwl⟩ := Mur.own8_some hW (by omega)
                subst hqw_
                refine wp_seq ?_
                refine Wk.reg ?_
                refine Wk.rPure 0 (some 221) (.bool true) rfl rfl (by kernel_rfl) (Wk.boolT (b := decide (((iw : Nat) : Int) < ((d2.x.b.length : Nat) : Int))) (decide_eq_true (by omega)) (by kernel_rfl)) ?_
                refine Wk.rEnd 1 rfl ?_
                refine Wk.nxt ?_
                refine wp_seq ?_
                refine wp_cond_true (by kernel_rfl) ?_
                refine wp_skip ?_
                refine Wk.nxt ?_
                refine wp_seq ?_
                refine wp_block ?_
                refine wp_seq ?_
                refine Wk.reg ?_
                refine Wk.rPure 0 (some 222) (.int .i64 ((iw : Nat) : Int)) rfl rfl (by kernel_rfl) (by kernel_rfl) ?_
                refine Wk.rPure 1 (some 16) (.int .i64 ((iw : Nat) : Int)) rfl rfl (by kernel_rfl) (by kernel_rfl) ?_
                refine Wk.rEnd 2 rfl ?_
                refine Wk.nxt ?_
                refine Wk.reg ?_
                refine Wk.rPure 0 (some 223) (.slice (some ⟨qw, 0, none⟩) d2.x.b.length nn5) rfl rfl (by kernel_rfl) (by kernel_rfl) ?_
                refine Wk.rPure 1 (some 224) (.int .i64 ((iw : Nat) : Int)) rfl rfl (by kernel_rfl) (by kernel_rfl) ?_
                refine Wk.rPure 2 (some 225) (.pointer (some ⟨qw, 0 + iw * 1, none⟩)) rfl rfl (by kernel_rfl) (Wk.index_sl 26 5 (.tmp 223) (.tmp 224) rfl Try.underlying26 1 (by kernel_rfl) qw 0 d2.x.b.length nn5 iw .i64 (by kernel_rfl) (by kernel_rfl) (by omega)) ?_
                refine Wk.rPure 3 (some 226) (.int .u8 (((lw.getD iw 0).toNat : Nat) : Int)) rfl rfl (by kernel_rfl) (Wk.load1 5 (.tmp 225) rfl (by kernel_rfl) ⟨qw, 0 + iw * 1, none⟩ (by kernel_rfl) (.int .u8 (((lw.getD iw 0).toNat : Nat) : Int)) (Mur.byt_cell hW.byt iw hltw)) ?_
                refine Wk.rPure 4 (some 227) (.int .u8 ((((lw.getD iw 0) + 1).toNat : Nat) : Int)) rfl rfl (by kernel_rfl) (Mur.add8 5 5 (.tmp 226) (.const (.int .u8 1)) rfl (lw.getD iw 0) (by kernel_rfl) (by kernel_rfl)) ?_
                refine Wk.rPure 5 (some 228) (.pointer (some ⟨qw, 0 + iw * 1, none⟩)) rfl rfl (by kernel_rfl) (Wk.index_sl 26 5 (.tmp 223) (.tmp 224) rfl Try.underlying26 1 (by kernel_rfl) qw 0 d2.x.b.length nn5 iw .i64 (by kernel_rfl) (by kernel_rfl) (by omega)) ?_
                refine Wk.rExS 6 none _ rfl rfl (by kernel_rfl) (Mur.own_store 5 (.tmp 228) (.tmp 227) rfl (by kernel_rfl) qw iw (by kernel_rfl) ((lw.getD iw 0) + 1) (by kernel_rfl) hW hltw) ?_
                rintro W60 ⟨ow22, ch54⟩
                have zz59 := ch54.size
                refine Wk.rEnd 7 rfl ?_
                refine Wk.inN ?_
                refine Wk.nxt ?_
                refine Wk.reg ?_
                refine Wk.rPure 0 (some 229) (.int .i64 ((iw + 1 : Nat) : Int)) rfl rfl (by kernel_rfl) (Wk.int64 (n := ((iw : Nat) : Int) + 1) (z := ((iw + 1 : Nat) : Int)) (by omega) (by omega) (by omega) (by kernel_rfl)) ?_
                refine Wk.rPure 1 (some 220) (.int .i64 ((iw + 1 : Nat) : Int)) rfl rfl (by kernel_rfl) (by kernel_rfl) ?_
                refine Wk.rEnd 2 rfl ?_
                refine Wk.nxt ?_
                refine ⟨_, ?_, iw + 1, lw.set iw ((lw.getD iw 0) + 1), rfl, by kernel_rfl, (by omega), ow22, (Wk.Chg.step hC ch54 ⟨.inl (by simp [Wk.blk, Value.ownBlock]), trivial⟩)⟩
                · omega
              · have zz60 := hC.size
                refine wp_seq ?_
                refine Wk.reg ?_
                refine Wk.rPure 0 (some 221) (.bool false) rfl rfl (by kernel_rfl) (Wk.boolF (b := decide (((iw : Nat) : Int) < ((d2.x.b.length : Nat) : Int))) (decide_eq_false (by omega)) (by kernel_rfl)) ?_
                refine Wk.rEnd 1 rfl ?_
                refine Wk.nxt ?_
                refine wp_seq ?_
                refine wp_cond_false (by kernel_rfl) ?_
                refine wp_exit ?_
                refine Wk.thX ?_
                refine Wk.thX ?_
                refine Wk.inX ?_
                refine Wk.inN ?_
                refine Wk.nxt ?_
                refine Wk.reg ?_
                refine Wk.rPure 0 (some 179) (.int .i64 0) rfl rfl (by kernel_rfl) (by kernel_rfl) ?_
                refine Wk.rPure 1 (some 180) (.int .i64 1) rfl rfl (by kernel_rfl) (Wk.int64 (n := 0 + 1) (z := 1) (by omega) (by omega) (by omega) (by kernel_rfl)) ?_
                refine Wk.rPure 2 (some 14) (.int .i64 1) rfl rfl (by kernel_rfl) (by kernel_rfl) ?_
                refine Wk.rEnd 3 rfl ?_
                refine Wk.nxt ?_
                refine Wk.rdS ?_
                refine wp_seq ?_
                refine wp_seq ?_
                refine Wk.reg ?_
                refine Wk.rPure 0 (some 177) (.int .i64 1) rfl rfl (by kernel_rfl) (by kernel_rfl) ?_
                refine Wk.rPure 1 (some 178) (.bool true) rfl rfl (by kernel_rfl) (Wk.boolT (b := decide ((1 : Int) < (3 : Int))) (decide_eq_true (by decide)) (by kernel_rfl)) ?_
                refine Wk.rEnd 2 rfl ?_
                refine Wk.nxt ?_
                refine wp_cond_true (by kernel_rfl) ?_
                refine wp_skip ?_
                refine Wk.nxt ?_
                refine wp_seq ?_
                refine wp_block ?_
                refine wp_seq ?_
                refine Wk.reg ?_
                refine Wk.rPure 0 (some 181) (.pointer (some ⟨gd2, 0, none⟩)) rfl rfl (by kernel_rfl) (by kernel_rfl) ?_
                refine Wk.rPure 1 (some 182) (.int .i64 1) rfl rfl (by kernel_rfl) (by kernel_rfl) ?_
                refine Wk.rCall 2 (some 183) 13 [.tmp 181, .tmp 182] #[23, 3] [.pointer (some ⟨gd2, 0, none⟩), .int .i64 1] rfl rfl (by kernel_rfl) rfl (by kernel_rfl) (by kernel_rfl) ?_
                have hD76 := Mur.DskF.chg hD75 hC (fun s hs hl => Wk.off_blk (fun q hq => by have := ow20.lt q hq; have := hM2 s hs; omega))
                refine (Bytes_any gd2 d2 F2 1 W59 hD76).mono ?_
                rw [show Mur.Dk.bytes d2 1 = d2.y.b from rfl]
                rintro _ W61 ⟨vv3, rfl, HO3, ch55⟩
                obtain ⟨AA6, nn6, rfl, hcc3, hmm8, hN3, HS3, hl3⟩ := Wk.own_sl HO3
                have hB4 : Byt W61 AA6 d2.y.b.length d2.y.b := by obtain ⟨_, _, e_, _, _, hq⟩ := Mur.own_byt HO3; cases e_; exact hq
                have zz61 := ch55.size
                have ow23 := Mur.own8 HO3
                refine ⟨_, rfl, ?_⟩
                refine Wk.rPure 3 (some 15) (.slice AA6 d2.y.b.length nn6) rfl rfl (by kernel_rfl) (by kernel_rfl) ?_
                refine Wk.rEnd 4 rfl ?_
                refine Wk.nxt ?_
                refine wp_seq ?_
                refine wp_seq ?_
                refine Wk.reg ?_
                refine Wk.rPure 0 (some 184) (.int .i64 1) rfl rfl (by kernel_rfl) (by kernel_rfl) ?_
                refine Wk.rCall 1 (some 185) 16 [.tmp 184] #[3] [.int .i64 1] rfl rfl (by kernel_rfl) rfl (by kernel_rfl) (by kernel_rfl) ?_
                refine (Has_any 1 W61).mono ?_
                rw [decide_eq_true ((by decide) : hasF 1)]
                rintro _ _ ⟨rfl, rfl⟩
                refine ⟨_, rfl, ?_⟩
                refine Wk.rPure 2 (some 186) (.bool false) rfl rfl (by kernel_rfl) (by kernel_rfl) ?_
                refine Wk.rEnd 3 rfl ?_
                refine Wk.nxt ?_
                refine wp_cond_false (by kernel_rfl) ?_
                refine wp_skip ?_
                refine Wk.nxt ?_
                refine wp_seq ?_
                refine wp_seq ?_
                refine Wk.dReg ([]) (by kernel_rfl) ?_
                intro W62 ch56 sz17
                have zz62 := ch56.size
                have sS21 : Wk.Chg ([]) W62 W62 := (Wk.Chg.refl _).more (by simp)
                refine Wk.dVal 0 (some 196) (.slice AA6 d2.y.b.length nn6) rfl rfl (by kernel_rfl) (by kernel_rfl) (by kernel_rfl) (fun _ _ _ h => h) (by kernel_rfl) (fun w' hw' => by kernel_rfl) sS21 ?_
                refine Wk.dVal 1 (some 197) (.string (Mur.str d2.y.b)) rfl rfl (by kernel_rfl) (by kernel_rfl) (by kernel_rfl) (fun _ _ _ h => h) (by kernel_rfl) (fun w' hw' => (Mur.run_str 26 9 (.tmp 196) 5 rfl Try.underlying26 Try.underlying5 Try.underlying9 AA6 d2.y.b.length nn6 d2.y.b (by kernel_rfl) (Mur.byt_chg (Mur.byt_chg ow23.byt ch56 (fun g off e hl => trivial)) hw' (fun g off e hl => trivial)))) sS21 ?_
                refine Wk.dVal 2 (some 198) (.pointer (some ⟨W1.heap.size, 0, none⟩)) rfl rfl (by kernel_rfl) (by kernel_rfl) (by kernel_rfl) (fun _ _ _ h => h) (by kernel_rfl) (fun w' hw' => by kernel_rfl) sS21 ?_
                refine Wk.dVal 3 (some 199) (.int .i64 1) rfl rfl (by kernel_rfl) (by kernel_rfl) (by kernel_rfl) (fun _ _ _ h => h) (by kernel_rfl) (fun w' hw' => by kernel_rfl) sS21 ?_
                refine Wk.dVal 4 (some 200) (.pointer (some ⟨W1.heap.size, 0, none⟩)) rfl rfl (by kernel_rfl) (by kernel_rfl) (by kernel_rfl) (fun _ _ _ h => h) (by kernel_rfl) (fun w' hw' => by kernel_rfl) sS21 ?_
                refine Wk.dVal 5 (some 201) (.pointer (some ⟨W1.heap.size, 0, none⟩)) rfl rfl (by kernel_rfl) (by kernel_rfl) (by kernel_rfl) (fun _ _ _ h => h) (by kernel_rfl) (fun w' hw' => by kernel_rfl) sS21 ?_
                refine Wk.dVal 6 (some 202) (.pointer (some ⟨W1.heap.size, 1, none⟩)) rfl rfl (by kernel_rfl) (by kernel_rfl) (by kernel_rfl) (fun _ _ _ h => h) (by kernel_rfl) (fun w' hw' => (Wk.index_arr 43 26 (.tmp 201) (.tmp 199) rfl 2 Try.underlying43 1 (by kernel_rfl) W1.heap.size 0 1 .i64 (by kernel_rfl) (by kernel_rfl) (by decide))) sS21 ?_
                refine Wk.dVal 7 (some 203) (.slice A12 n12 c12) rfl rfl (by kernel_rfl) (by kernel_rfl) (by kernel_rfl) (fun _ _ _ h => h) (by kernel_rfl) (fun w' hw' => (Wk.load1 26 (.tmp 202) rfl (by kernel_rfl) ⟨W1.heap.size, 1, none⟩ (by kernel_rfl) (.slice A12 n12 c12) ((cell_of_row _ _ 1 _ _ _ (Wk.Chg.hp hw' (Wk.Chg.hp ch56 (Wk.Chg.hp ch55 (Wk.Chg.hp hC (Wk.Chg.hp ch53 (Wk.Chg.hp ch52 (Wk.Chg.hp ch51 hR2.hp trivial) trivial) trivial) (Wk.off_blk (fun gz hgz => by have := ow20.lt gz hgz; omega))) trivial) trivial) trivial)).trans rfl))) sS21 ?_
                refine Wk.dVal 8 (some 204) (.string (Mur.str d2.y.b)) rfl rfl (by kernel_rfl) (by kernel_rfl) (by kernel_rfl) (fun _ _ _ h => h) (by kernel_rfl) (fun w' hw' => (Mur.run_str 26 9 (.tmp 203) 5 rfl Try.underlying26 Try.underlying5 Try.underlying9 A12 n12 c12 d2.y.b (by kernel_rfl) (Mur.byt_chg (Mur.byt_chg (Mur.byt_chg (Mur.byt_chg (Mur.byt_chg (Mur.byt_chg (Mur.byt_chg hR2.b1 ch51 (fun g off e hl => trivial)) ch52 (fun g off e hl => trivial)) ch53 (fun g off e hl => trivial)) hC (fun g off e hl => (Wk.off_blk (fun gz hgz => by have := ow20.lt gz hgz; have := hR2.at1 g off e; omega)))) ch55 (fun g off e hl => trivial)) ch56 (fun g off e hl => trivial)) hw' (fun g off e hl => trivial)))) sS21 ?_
                refine Wk.dVal 9 (some 205) (.bool false) rfl rfl (by kernel_rfl) (by kernel_rfl) (by kernel_rfl) (fun _ _ _ h => h) (by kernel_rfl) (fun w' hw' => (Wk.boolF (b := decide (d2.y.b ≠ d2.y.b)) (decide_eq_false (fun h => h rfl)) (Mur.strne 9 9 (.tmp 197) (.tmp 204) rfl d2.y.b d2.y.b (by kernel_rfl) (by kernel_rfl)))) sS21 ?_
                refine Wk.dVal 10 (some 206) (.bool false) rfl rfl (by kernel_rfl) (by kernel_rfl) (by kernel_rfl) (fun _ _ _ h => h) (by kernel_rfl) (fun w' hw' => by kernel_rfl) sS21 ?_
                refine Wk.dVal 11 (some 207) (.pointer (some ⟨gd2, 0, none⟩)) rfl rfl (by kernel_rfl) (by kernel_rfl) (by kernel_rfl) (fun _ _ _ h => h) (by kernel_rfl) (fun w' hw' => by kernel_rfl) sS21 ?_
                refine Wk.dVal 12 (some 208) (.int .i64 1) rfl rfl (by kernel_rfl) (by kernel_rfl) (by kernel_rfl) (fun _ _ _ h => h) (by kernel_rfl) (fun w' hw' => by kernel_rfl) sS21 ?_
                refine Wk.dVal 14 (some 210) (.pointer (some ⟨W1.heap.size, 0, none⟩)) rfl rfl (by kernel_rfl) (by kernel_rfl) (by kernel_rfl) (fun _ _ _ h => h) (by kernel_rfl) (fun w' hw' => by kernel_rfl) sS21 ?_
                refine Wk.dVal 15 (some 211) (.int .i64 1) rfl rfl (by kernel_rfl) (by kernel_rfl) (by kernel_rfl) (fun _ _ _ h => h) (by kernel_rfl) (fun w' hw' => by kernel_rfl) sS21 ?_
                refine Wk.dVal 16 (some 212) (.pointer (some ⟨W1.heap.size, 0, none⟩)) rfl rfl (by kernel_rfl) (by kernel_rfl) (by kernel_rfl) (fun _ _ _ h => h) (by kernel_rfl) (fun w' hw' => by kernel_rfl) sS21 ?_
                refine Wk.dVal 17 (some 213) (.pointer (some ⟨W1.heap.size, 2, none⟩)) rfl rfl (by kernel_rfl) (by kernel_rfl) (by kernel_rfl) (fun _ _ _ h => h) (by kernel_rfl) (fun w' hw' => by kernel_rfl) sS21 ?_
                refine Wk.dVal 18 (some 214) (.pointer (some ⟨W1.heap.size, 3, none⟩)) rfl rfl (by kernel_rfl) (by kernel_rfl) (by kernel_rfl) (fun _ _ _ h => h) (by kernel_rfl) (fun w' hw' => (Wk.index_arr 27 3 (.tmp 213) (.tmp 211) rfl 2 Try.underlying27 1 (by kernel_rfl) W1.heap.size 2 1 .i64 (by kernel_rfl) (by kernel_rfl) (by decide))) sS21 ?_
                refine Wk.dVal 19 (some 215) (.int .i64 ((d2.y.n : Nat) : Int)) rfl rfl (by kernel_rfl) (by kernel_rfl) (by kernel_rfl) (fun _ _ _ h => h) (by kernel_rfl) (fun w' hw' => (Wk.load1 3 (.tmp 214) rfl (by kernel_rfl) ⟨W1.heap.size, 3, none⟩ (by kernel_rfl) (.int .i64 ((d2.y.n : Nat) : Int)) ((cell_of_row _ _ 3 _ _ _ (Wk.Chg.hp hw' (Wk.Chg.hp ch56 (Wk.Chg.hp ch55 (Wk.Chg.hp hC (Wk.Chg.hp ch53 (Wk.Chg.hp ch52 (Wk.Chg.hp ch51 hR2.hp trivial) trivial) trivial) (Wk.off_blk (fun gz hgz => by have := ow20.lt gz hgz; omega))) trivial) trivial) trivial)).trans rfl))) sS21 ?_
                refine Wk.dOp 13 (by kernel_rfl) ?_
                refine Wk.oCall (some 209) 14 [.tmp 207, .tmp 208] #[23, 3] [.pointer (some ⟨gd2, 0, none⟩), .int .i64 1] rfl rfl (by kernel_rfl) rfl (by kernel_rfl) (by kernel_rfl) ?_
                have hD77 := Mur.DskF.chg hD76 ch55 (fun s hs hl => trivial)
                have hD78 := Mur.DskF.chg hD77 ch56 (fun s hs hl => trivial)
                refine (Synced_any gd2 d2 F2 1 W62 hD78).mono ?_
                rw [show Mur.Dk.synced d2 1 = d2.y.n from rfl]
                rintro _ _ ⟨rfl, rfl⟩
                refine ⟨_, rfl, sS21, ?_⟩
                refine Wk.dVal 20 (some 216) (.bool false) rfl rfl (by kernel_rfl) (by kernel_rfl) (by kernel_rfl) (fun _ _ _ h => h) (by kernel_rfl) (fun w' hw' => (Wk.boolF (b := (((d2.y.n : Nat) : Int) != ((d2.y.n : Nat) : Int))) (bne_eq_false_iff_eq.2 (rfl)) (by kernel_rfl))) sS21 ?_
                refine Wk.dVal 21 (some 217) (.bool false) rfl rfl (by kernel_rfl) (by kernel_rfl) (by kernel_rfl) (fun _ _ _ h => h) (by kernel_rfl) (fun w' hw' => by kernel_rfl) sS21 ?_
                refine Wk.dEnd (by kernel_rfl) ?_
                refine Wk.nxt ?_
                refine wp_cond_false (by kernel_rfl) ?_
                refine wp_skip ?_
                refine Wk.nxt ?_
                refine wp_seq ?_
                refine Wk.reg ?_
                refine Wk.rPure 0 (some 218) (.slice AA6 d2.y.b.length nn6) rfl rfl (by kernel_rfl) (by kernel_rfl) ?_
                refine Wk.rPure 1 (some 219) (.int .i64 ((d2.y.b.length : Nat) : Int)) rfl rfl (by kernel_rfl) (by kernel_rfl) ?_
                refine Wk.rPure 2 (some 220) (.int .i64 0) rfl rfl (by kernel_rfl) (by kernel_rfl) ?_
                refine Wk.rEnd 3 rfl ?_
                refine Wk.nxt ?_
                refine wp_block ?_
                have ow24 := Mur.own8 (Wk.own_chg ow23.own ch56 (fun q e _ _ => trivial))
                have kk104 := Wk.Chg.step kk103 hC (Wk.newOr_blk (fun g hg => by have := ow20.lt g hg; omega))
                have kk105 := Wk.Chg.step kk104 ch55 trivial
                have kk106 := Wk.Chg.step kk105 ch56 trivial
                have hR69 := Mur.Ref.chg hR68 hC (fun s hs hl => Wk.off_blk (fun q hq => by have := ow20.lt q hq; have := hMR2 s hs; omega))
                have hR70 := Mur.Ref.chg hR69 ch55 (fun s hs hl => trivial)
                have hR71 := Mur.Ref.chg hR70 ch56 (fun s hs hl => trivial)
                refine Wk.loop (fun m_ a wr => ∃ (iw : Nat) (lw : List UInt8), m_ = d2.y.b.length - iw ∧ a = Plays_F7 a.tmps (.pointer (some ⟨gd2, 0, none⟩)) (.pointer (some ⟨W1.heap.size, 0, none⟩)) (.int .i64 gt2) (.int .i64 1) (.slice AA6 d2.y.b.length nn6) (.slice (some ⟨g, off, none⟩) n c) (.int .i64 ((n : Nat) : Int)) (.int .i64 ((k : Nat) : Int)) (.int .i64 ((d2.y.b.length : Nat) : Int)) (.int .i64 ((iw : Nat) : Int)) ∧ iw ≤ d2.y.b.length ∧ Mur.Own8 wr W59.heap.size 5 AA6 d2.y.b.length nn6 lw ∧ Wk.Chg (Wk.blk (.slice AA6 d2.y.b.length nn6)) W62 wr) (d2.y.b.length - 0) ?_ ?_
                · refine ⟨0, d2.y.b, rfl, by kernel_rfl, Nat.zero_le _, ow24, (Wk.Chg.refl _).more (by simp)⟩
                · rintro mm6 aa10 W63 ⟨iw, lw, hmm9, hF10, hiw, hW, hC⟩
                  generalize aa10.tmps = bb10 at hF10
                  subst hF10
                  have hlw := hW.byt.1
                  by_cases hltw : iw < d2.y.b.length
                  · obtain ⟨qw, hqw_, hqwb, hqwl⟩ := Mur.own8_some hW (by omega)
                    subst hqw_
                    refine wp_seq ?_
                    refine Wk.reg ?_
                    refine Wk.rPure 0 (some 221) (.bool true) rfl rfl (by kernel_rfl) (Wk.boolT (b := decide (((iw : Nat) : Int) < ((d2.y.b.length : Nat) : Int))) (decide_eq_true (by omega)) (by kernel_rfl)) ?_
                    refine Wk.rEnd 1 rfl ?_
                    refine Wk.nxt ?_
                    refine wp_seq ?_
                    refine wp_cond_true (by kernel_rfl) ?_
                    refine wp_skip ?_
                    refine Wk.nxt ?_
                    refine wp_seq ?_
                    refine wp_block ?_
                    refine wp_seq ?_
                    refine Wk.reg ?_
                    refine Wk.rPure 0 (some 222) (.int .i64 ((iw : Nat) : Int)) rfl rfl (by kernel_rfl) (by kernel_rfl) ?_
                    refine Wk.rPure 1 (some 16) (.int .i64 ((iw : Nat) : Int)) rfl rfl (by kernel_rfl) (by kernel_rfl) ?_
                    refine Wk.rEnd 2 rfl ?_
                    refine Wk.nxt ?_
                    refine Wk.reg ?_
                    refine Wk.rPure 0 (some 223) (.slice (some ⟨qw, 0, none⟩) d2.y.b.length nn6) rfl rfl (by kernel_rfl) (by kernel_rfl) ?_
                    refine Wk.rPure 1 (some 224) (.int .i64 ((iw : Nat) : Int)) rfl rfl (by kernel_rfl) (by kernel_rfl) ?_
                    refine Wk.rPure 2 (some 225) (.pointer (some ⟨qw, 0 + iw * 1, none⟩)) rfl rfl (by kernel_rfl) (Wk.index_sl 26 5 (.tmp 223) (.tmp 224) rfl Try.underlying26 1 (by kernel_rfl) qw 0 d2.y.b.length nn6 iw .i64 (by kernel_rfl) (by kernel_rfl) (by omega)) ?_
                    refine Wk.rPure 3 (some 226) (.int .u8 (((lw.getD iw 0).toNat : Nat) : Int)) rfl rfl (by kernel_rfl) (Wk.load1 5 (.tmp 225) rfl (by kernel_rfl) ⟨qw, 0 + iw * 1, none⟩ (by kernel_rfl) (.int .u8 (((lw.getD iw 0).toNat : Nat) : Int)) (Mur.byt_cell hW.byt iw hltw)) ?_
                    refine Wk.rPure 4 (some 227) (.int .u8 ((((lw.getD iw 0) + 1).toNat : Nat) : Int)) rfl rfl (by kernel_rfl) (Mur.add8 5 5 (.tmp 226) (.const (.int .u8 1)) rfl (lw.getD iw 0) (by kernel_rfl) (by kernel_rfl)) ?_
                    refine Wk.rPure 5 (some 228) (.pointer (some ⟨qw, 0 + iw * 1, none⟩)) rfl rfl (by kernel_rfl) (Wk.index_sl 26 5 (.tmp 223) (.tmp 224) rfl Try.underlying26 1 (by kernel_rfl) qw 0 d2.y.b.length nn6 iw .i64 (by kernel_rfl) (by kernel_rfl) (by omega)) ?_
                    refine Wk.rExS 6 none _ rfl rfl (by kernel_rfl) (Mur.own_store 5 (.tmp 228) (.tmp 227) rfl (by kernel_rfl) qw iw (by kernel_rfl) ((lw.getD iw 0) + 1) (by kernel_rfl) hW hltw) ?_
                    rintro W64 ⟨ow25, ch57⟩
                    have zz63 := ch57.size
                    refine Wk.rEnd 7 rfl ?_
                    refine Wk.inN ?_
                    refine Wk.nxt ?_
                    refine Wk.reg ?_
                    refine Wk.rPure 0 (some 229) (.int .i64 ((iw + 1 : Nat) : Int)) rfl rfl (by kernel_rfl) (Wk.int64 (n := ((iw : Nat) : Int) + 1) (z := ((iw + 1 : Nat) : Int)) (by omega) (by omega) (by omega) (by kernel_rfl)) ?_
                    refine Wk.rPure 1 (some 220) (.int .i64 ((iw + 1 : Nat) : Int)) rfl rfl (by kernel_rfl) (by kernel_rfl) ?_
                    refine Wk.rEnd 2 rfl ?_
                    refine Wk.nxt ?_
                    refine ⟨_, ?_, iw + 1, lw.set iw ((lw.getD iw 0) + 1), rfl, by kernel_rfl, (by omega), ow25, (Wk.Chg.step hC ch57 ⟨.inl (by simp [Wk.blk, Value.ownBlock]), trivial⟩)⟩
                    · omega
                  · have zz64 := hC.size
                    refine wp_seq ?_
                    refine Wk.reg ?_
                    refine Wk.rPure 0 (some 221) (.bool false) rfl rfl (by kernel_rfl) (Wk.boolF (b := decide (((iw : Nat) : Int) < ((d2.y.b.length : Nat) : Int))) (decide_eq_false (by omega)) (by kernel_rfl)) ?_
                    refine Wk.rEnd 1 rfl ?_
                    refine Wk.nxt ?_
                    refine wp_seq ?_
                    refine wp_cond_false (by kernel_rfl) ?_
                    refine wp_exit ?_
                    refine Wk.thX ?_
                    refine Wk.thX ?_
                    refine Wk.inX ?_
                    refine Wk.inN ?_
                    refine Wk.nxt ?_
                    refine Wk.reg ?_
                    refine Wk.rPure 0 (some 179) (.int .i64 1) rfl rfl (by kernel_rfl) (by kernel_rfl) ?_
                    refine Wk.rPure 1 (some 180) (.int .i64 2) rfl rfl (by kernel_rfl) (Wk.int64 (n := 1 + 1) (z := 2) (by omega) (by omega) (by omega) (by kernel_rfl)) ?_
                    refine Wk.rPure 2 (some 14) (.int .i64 2) rfl rfl (by kernel_rfl) (by kernel_rfl) ?_
                    refine Wk.rEnd 3 rfl ?_
                    refine Wk.nxt ?_
                    refine Wk.rdS ?_
                    refine wp_seq ?_
                    refine wp_seq ?_
                    refine Wk.reg ?_
                    refine Wk.rPure 0 (some 177) (.int .i64 2) rfl rfl (by kernel_rfl) (by kernel_rfl) ?_
                    refine Wk.rPure 1 (some 178) (.bool true) rfl rfl (by kernel_rfl) (Wk.boolT (b := decide ((2 : Int) < (3 : Int))) (decide_eq_true (by decide)) (by kernel_rfl)) ?_
                    refine Wk.rEnd 2 rfl ?_
                    refine Wk.nxt ?_
                    refine wp_cond_true (by kernel_rfl) ?_
                    refine wp_skip ?_
                    refine Wk.nxt ?_
                    refine wp_seq ?_
                    refine wp_block ?_
                    refine wp_seq ?_
                    refine Wk.reg ?_
                    refine Wk.rPure 0 (some 181) (.pointer (some ⟨gd2, 0, none⟩)) rfl rfl (by kernel_rfl) (by kernel_rfl) ?_
                    refine Wk.rPure 1 (some 182) (.int .i64 2) rfl rfl (by kernel_rfl) (by kernel_rfl) ?_
                    refine Wk.rCall 2 (some 183) 13 [.tmp 181, .tmp 182] #[23, 3] [.pointer (some ⟨gd2, 0, none⟩), .int .i64 2] rfl rfl (by kernel_rfl) rfl (by kernel_rfl) (by kernel_rfl) ?_
                    have hD79 := Mur.DskF.chg hD78 hC (fun s hs hl => Wk.off_blk (fun q hq => by have := ow23.lt q hq; have := hM2 s hs; omega))
                    refine (Bytes_any gd2 d2 F2 2 W63 hD79).mono ?_
                    rw [show Mur.Dk.bytes d2 2 = [] from if_neg (by decide)]
                    rintro _ W65 ⟨vv4, rfl, HO4, ch58⟩
                    obtain ⟨AA7, nn7, rfl, hcc4, hmm10, hN4, HS4, hl4⟩ := Wk.own_sl HO4
                    have hB5 : Byt W65 AA7 ([] : List UInt8).length ([] : List UInt8) := by obtain ⟨_, _, e_, _, _, hq⟩ := Mur.own_byt HO4; cases e_; exact hq
                    have zz65 := ch58.size
                    have ow26 := Mur.own8 HO4
                    refine ⟨_, rfl, ?_⟩
                    refine Wk.rPure 3 (some 15) (.slice AA7 (([] : List UInt8).length) nn7) rfl rfl (by kernel_rfl) (by kernel_rfl) ?_
                    refine Wk.rEnd 4 rfl ?_
                    refine Wk.nxt ?_
                    refine wp_seq ?_
                    refine wp_seq ?_
                    refine Wk.reg ?_
                    refine Wk.rPure 0 (some 184) (.int .i64 2) rfl rfl (by kernel_rfl) (by kernel_rfl) ?_
                    refine Wk.rCall 1 (some 185) 16 [.tmp 184] #[3] [.int .i64 2] rfl rfl (by kernel_rfl) rfl (by kernel_rfl) (by kernel_rfl) ?_
                    refine (Has_any 2 W65).mono ?_
                    rw [decide_eq_false ((by decide) : ¬ hasF 2)]
                    rintro _ _ ⟨rfl, rfl⟩
                    refine ⟨_, rfl, ?_⟩
                    refine Wk.rPure 2 (some 186) (.bool true) rfl rfl (by kernel_rfl) (by kernel_rfl) ?_
                    refine Wk.rEnd 3 rfl ?_
                    refine Wk.nxt ?_
                    refine wp_cond_true (by kernel_rfl) ?_
                    refine wp_seq ?_
                    refine wp_seq ?_
                    refine Wk.reg ?_
                    refine Wk.rPure 0 (some 187) (.slice AA7 (([] : List UInt8).length) nn7) rfl rfl (by kernel_rfl) (by kernel_rfl) ?_
                    refine Wk.rPure 1 (some 188) (.int .i64 ((([] : List UInt8).length : Nat) : Int)) rfl rfl (by kernel_rfl) (by kernel_rfl) ?_
                    refine Wk.rPure 2 (some 189) (.bool false) rfl rfl (by kernel_rfl) (Wk.boolF (b := decide (((([] : List UInt8).length : Nat) : Int) > (0 : Int))) (decide_eq_false (by decide)) (by kernel_rfl)) ?_
                    refine Wk.rPure 3 (some 190) (.bool false) rfl rfl (by kernel_rfl) (by kernel_rfl) ?_
                    refine Wk.rPure 4 (some 191) (.pointer (some ⟨gd2, 0, none⟩)) rfl rfl (by kernel_rfl) (by kernel_rfl) ?_
                    refine Wk.rPure 5 (some 192) (.int .i64 2) rfl rfl (by kernel_rfl) (by kernel_rfl) ?_
                    refine Wk.rCall 6 (some 193) 14 [.tmp 191, .tmp 192] #[23, 3] [.pointer (some ⟨gd2, 0, none⟩), .int .i64 2] rfl rfl (by kernel_rfl) rfl (by kernel_rfl) (by kernel_rfl) ?_
                    have hD80 := Mur.DskF.chg hD79 ch58 (fun s hs hl => trivial)
                    refine (Synced_any gd2 d2 F2 2 W65 hD80).mono ?_
                    rw [show Mur.Dk.synced d2 2 = 0 from if_neg (by decide)]
                    rintro _ _ ⟨rfl, rfl⟩
                    refine ⟨_, rfl, ?_⟩
                    refine Wk.rPure 7 (some 194) (.bool false) rfl rfl (by kernel_rfl) (Wk.boolF (b := ((0 : Int) != (0 : Int))) (bne_eq_false_iff_eq.2 (by decide)) (by kernel_rfl)) ?_
                    refine Wk.rPure 8 (some 195) (.bool false) rfl rfl (by kernel_rfl) (by kernel_rfl) ?_
                    refine Wk.rEnd 9 rfl ?_
                    refine Wk.nxt ?_
                    refine wp_cond_false (by kernel_rfl) ?_
                    refine wp_skip ?_
                    refine Wk.nxt ?_
                    refine wp_exit ?_
                    refine Wk.thX ?_
                    refine Wk.inX ?_
                    refine Wk.nxt ?_
                    refine Wk.reg ?_
                    refine Wk.rPure 0 (some 179) (.int .i64 2) rfl rfl (by kernel_rfl) (by kernel_rfl) ?_
                    refine Wk.rPure 1 (some 180) (.int .i64 3) rfl rfl (by kernel_rfl) (Wk.int64 (n := 2 + 1) (z := 3) (by omega) (by omega) (by omega) (by kernel_rfl)) ?_
                    refine Wk.rPure 2 (some 14) (.int .i64 3) rfl rfl (by kernel_rfl) (by kernel_rfl) ?_
                    refine Wk.rEnd 3 rfl ?_
                    refine Wk.nxt ?_
                    refine Wk.rdS ?_
                    refine wp_seq ?_
                    refine wp_seq ?_
                    refine Wk.reg ?_
                    refine Wk.rPure 0 (some 177) (.int .i64 3) rfl rfl (by kernel_rfl) (by kernel_rfl) ?_
                    refine Wk.rPure 1 (some 178) (.bool false) rfl rfl (by kernel_rfl) (Wk.boolF (b := decide ((3 : Int) < (3 : Int))) (decide_eq_false (by decide)) (by kernel_rfl)) ?_
                    refine Wk.rEnd 2 rfl ?_
                    refine Wk.nxt ?_
                    refine wp_cond_false (by kernel_rfl) ?_
                    refine wp_exit ?_
                    refine Wk.thX ?_
                    refine Wk.thX ?_
                    refine Wk.inX ?_
                    refine Wk.inN ?_
                    refine Wk.nxt ?_
                    refine Wk.reg ?_
                    refine Wk.rPure 0 (some 230) (.int .i64 ((k + 1 : Nat) : Int)) rfl rfl (by kernel_rfl) (Wk.int64 (n := ((k : Nat) : Int) + 1) (z := ((k + 1 : Nat) : Int)) (by omega) (by omega) (by omega) (by kernel_rfl)) ?_
                    refine Wk.rPure 1 (some 34) (.int .i64 ((k + 1 : Nat) : Int)) rfl rfl (by kernel_rfl) (by kernel_rfl) ?_
                    refine Wk.rEnd 2 rfl ?_
                    refine Wk.nxt ?_
                    have hR72 := Mur.Ref.chg hR71 hC (fun s hs hl => Wk.off_blk (fun q hq => by have := ow23.lt q hq; have := hMR2 s hs; omega))
                    have hR73 := Mur.Ref.chg hR72 ch58 (fun s hs hl => trivial)
                    have kk107 := Wk.Chg.step kk106 hC (Wk.newOr_blk (fun g hg => by have := ow23.lt g hg; omega))
                    have kk108 := Wk.Chg.step kk107 ch58 trivial
                    refine ⟨_, ?_, k + 1, gd2, F2, d2, A02, n02, c02, A12, n12, c12, gt2, rfl, by kernel_rfl, (by omega), hD80, hR73, hJ2, (by omega), kk108, (by omega)⟩
                    · omega
      · refine wp_seq ?_
        refine Wk.reg ?_
        refine Wk.rPure 0 (some 35) (.bool false) rfl rfl (by kernel_rfl) (Wk.boolF (b := decide (((k : Nat) : Int) < ((n : Nat) : Int))) (decide_eq_false (by omega)) (by kernel_rfl)) ?_
        refine Wk.rEnd 1 rfl ?_
        refine Wk.nxt ?_
        refine wp_seq ?_
        refine wp_cond_false (by kernel_rfl) ?_
        refine wp_exit ?_
        refine Wk.thX ?_
        refine Wk.thX ?_
        refine Wk.inX ?_
        refine Wk.nxt ?_
        refine wp_seq ?_
        refine Wk.reg ?_
        refine Wk.rCall 0 (some 231) 9 [] #[] [] rfl rfl (by kernel_rfl) rfl (by kernel_rfl) (by kernel_rfl) ?_
        refine (known_any W4).mono ?_
        rintro _ W66 ⟨rfl, hB6⟩
        have ch59 := Wk.Chg.ofBelow hB6
        have zz66 := ch59.size
        refine ⟨_, rfl, ?_⟩
        refine Wk.rPure 1 (some 2) (.bool true) rfl rfl (by kernel_rfl) (by kernel_rfl) ?_
        refine Wk.rEnd 2 rfl ?_
        refine Wk.nxt ?_
        refine wp_ret ?_
        have kk109 := Wk.Chg.step HB ch59 trivial
        refine Wk.ret (.bool true) rfl (by kernel_rfl) ?_
        exact ⟨rfl, Wk.Chg.below0 kk109⟩
end Go.Proofs.Ytddabjlhidokaaa
