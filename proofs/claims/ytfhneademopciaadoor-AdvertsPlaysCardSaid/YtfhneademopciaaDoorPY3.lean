/- AdvertsPlays, walked. -/
import Derived.Test.YtfhneademopciaaDoorPY1
import Derived.Test.YtfhneademopciaaDoorPY2
import Derived.Test.YtfhneademopciaaDoorPO11
namespace Go.Proofs.YtfhneademopciaaDoor
open Go.RowKit
open Mur (b8s Byt Own8 Seg Segs flat cutA attC Att SlA OwnA rowA)
set_option maxRecDepth 100000
set_option maxHeartbeats 4000000
def Pla20_F1 (b : Array Value) (u0 : Value) (u1 : Value) (u5 : Value) (u7 : Value) (u8 : Value) (u9 : Value) (u37 : Value) (u38 : Value) : Act := ⟨#[u0, u1, b.getD 2 undef, b.getD 3 undef, b.getD 4 undef, u5, b.getD 6 undef, u7, u8, u9, b.getD 10 undef, b.getD 11 undef, b.getD 12 undef, b.getD 13 undef, b.getD 14 undef, b.getD 15 undef, b.getD 16 undef, b.getD 17 undef, b.getD 18 undef, b.getD 19 undef, b.getD 20 undef, b.getD 21 undef, b.getD 22 undef, b.getD 23 undef, b.getD 24 undef, b.getD 25 undef, b.getD 26 undef, b.getD 27 undef, b.getD 28 undef, b.getD 29 undef, b.getD 30 undef, b.getD 31 undef, b.getD 32 undef, b.getD 33 undef, b.getD 34 undef, b.getD 35 undef, b.getD 36 undef, u37, u38, b.getD 39 undef, b.getD 40 undef, b.getD 41 undef, b.getD 42 undef, b.getD 43 undef, b.getD 44 undef, b.getD 45 undef, b.getD 46 undef, b.getD 47 undef, b.getD 48 undef, b.getD 49 undef, b.getD 50 undef, b.getD 51 undef, b.getD 52 undef, b.getD 53 undef, b.getD 54 undef, b.getD 55 undef, b.getD 56 undef, b.getD 57 undef, b.getD 58 undef, b.getD 59 undef, b.getD 60 undef, b.getD 61 undef, b.getD 62 undef, b.getD 63 undef, b.getD 64 undef, b.getD 65 undef, b.getD 66 undef, b.getD 67 undef, b.getD 68 undef, b.getD 69 undef, b.getD 70 undef, b.getD 71 undef, b.getD 72 undef, b.getD 73 undef, b.getD 74 undef, b.getD 75 undef, b.getD 76 undef, b.getD 77 undef, b.getD 78 undef, b.getD 79 undef, b.getD 80 undef, b.getD 81 undef, b.getD 82 undef, b.getD 83 undef, b.getD 84 undef, b.getD 85 undef, b.getD 86 undef, b.getD 87 undef, b.getD 88 undef, b.getD 89 undef, b.getD 90 undef, b.getD 91 undef, b.getD 92 undef, b.getD 93 undef, b.getD 94 undef, b.getD 95 undef, b.getD 96 undef, b.getD 97 undef, b.getD 98 undef, b.getD 99 undef, b.getD 100 undef, b.getD 101 undef, b.getD 102 undef, b.getD 103 undef, b.getD 104 undef, b.getD 105 undef, b.getD 106 undef, b.getD 107 undef, b.getD 108 undef, b.getD 109 undef, b.getD 110 undef, b.getD 111 undef, b.getD 112 undef, b.getD 113 undef, b.getD 114 undef, b.getD 115 undef, b.getD 116 undef, b.getD 117 undef, b.getD 118 undef, b.getD 119 undef, b.getD 120 undef, b.getD 121 undef, b.getD 122 undef, b.getD 123 undef, b.getD 124 undef, b.getD 125 undef, b.getD 126 undef, b.getD 127 undef, b.getD 128 undef, b.getD 129 undef, b.getD 130 undef, b.getD 131 undef, b.getD 132 undef, b.getD 133 undef, b.getD 134 undef, b.getD 135 undef, b.getD 136 undef, b.getD 137 undef, b.getD 138 undef, b.getD 139 undef, b.getD 140 undef, b.getD 141 undef, b.getD 142 undef, b.getD 143 undef, b.getD 144 undef, b.getD 145 undef, b.getD 146 undef, b.getD 147 undef, b.getD 148 undef, b.getD 149 undef, b.getD 150 undef, b.getD 151 undef, b.getD 152 undef, b.getD 153 undef, b.getD 154 undef, b.getD 155 undef, b.getD 156 undef, b.getD 157 undef, b.getD 158 undef, b.getD 159 undef, b.getD 160 undef, b.getD 161 undef, b.getD 162 undef, b.getD 163 undef, b.getD 164 undef, b.getD 165 undef, b.getD 166 undef, b.getD 167 undef, b.getD 168 undef, b.getD 169 undef, b.getD 170 undef, b.getD 171 undef, b.getD 172 undef, b.getD 173 undef, b.getD 174 undef, b.getD 175 undef, b.getD 176 undef, b.getD 177 undef, b.getD 178 undef, b.getD 179 undef, b.getD 180 undef, b.getD 181 undef, b.getD 182 undef, b.getD 183 undef, b.getD 184 undef, b.getD 185 undef], []⟩
def Pla20_F2 (b : Array Value) (u5 : Value) (u8 : Value) (u9 : Value) (u14 : Value) (u143 : Value) (u144 : Value) : Act := ⟨#[b.getD 0 undef, b.getD 1 undef, b.getD 2 undef, b.getD 3 undef, b.getD 4 undef, u5, b.getD 6 undef, b.getD 7 undef, u8, u9, b.getD 10 undef, b.getD 11 undef, b.getD 12 undef, b.getD 13 undef, u14, b.getD 15 undef, b.getD 16 undef, b.getD 17 undef, b.getD 18 undef, b.getD 19 undef, b.getD 20 undef, b.getD 21 undef, b.getD 22 undef, b.getD 23 undef, b.getD 24 undef, b.getD 25 undef, b.getD 26 undef, b.getD 27 undef, b.getD 28 undef, b.getD 29 undef, b.getD 30 undef, b.getD 31 undef, b.getD 32 undef, b.getD 33 undef, b.getD 34 undef, b.getD 35 undef, b.getD 36 undef, b.getD 37 undef, b.getD 38 undef, b.getD 39 undef, b.getD 40 undef, b.getD 41 undef, b.getD 42 undef, b.getD 43 undef, b.getD 44 undef, b.getD 45 undef, b.getD 46 undef, b.getD 47 undef, b.getD 48 undef, b.getD 49 undef, b.getD 50 undef, b.getD 51 undef, b.getD 52 undef, b.getD 53 undef, b.getD 54 undef, b.getD 55 undef, b.getD 56 undef, b.getD 57 undef, b.getD 58 undef, b.getD 59 undef, b.getD 60 undef, b.getD 61 undef, b.getD 62 undef, b.getD 63 undef, b.getD 64 undef, b.getD 65 undef, b.getD 66 undef, b.getD 67 undef, b.getD 68 undef, b.getD 69 undef, b.getD 70 undef, b.getD 71 undef, b.getD 72 undef, b.getD 73 undef, b.getD 74 undef, b.getD 75 undef, b.getD 76 undef, b.getD 77 undef, b.getD 78 undef, b.getD 79 undef, b.getD 80 undef, b.getD 81 undef, b.getD 82 undef, b.getD 83 undef, b.getD 84 undef, b.getD 85 undef, b.getD 86 undef, b.getD 87 undef, b.getD 88 undef, b.getD 89 undef, b.getD 90 undef, b.getD 91 undef, b.getD 92 undef, b.getD 93 undef, b.getD 94 undef, b.getD 95 undef, b.getD 96 undef, b.getD 97 undef, b.getD 98 undef, b.getD 99 undef, b.getD 100 undef, b.getD 101 undef, b.getD 102 undef, b.getD 103 undef, b.getD 104 undef, b.getD 105 undef, b.getD 106 undef, b.getD 107 undef, b.getD 108 undef, b.getD 109 undef, b.getD 110 undef, b.getD 111 undef, b.getD 112 undef, b.getD 113 undef, b.getD 114 undef, b.getD 115 undef, b.getD 116 undef, b.getD 117 undef, b.getD 118 undef, b.getD 119 undef, b.getD 120 undef, b.getD 121 undef, b.getD 122 undef, b.getD 123 undef, b.getD 124 undef, b.getD 125 undef, b.getD 126 undef, b.getD 127 undef, b.getD 128 undef, b.getD 129 undef, b.getD 130 undef, b.getD 131 undef, b.getD 132 undef, b.getD 133 undef, b.getD 134 undef, b.getD 135 undef, b.getD 136 undef, b.getD 137 undef, b.getD 138 undef, b.getD 139 undef, b.getD 140 undef, b.getD 141 undef, b.getD 142 undef, u143, u144, b.getD 145 undef, b.getD 146 undef, b.getD 147 undef, b.getD 148 undef, b.getD 149 undef, b.getD 150 undef, b.getD 151 undef, b.getD 152 undef, b.getD 153 undef, b.getD 154 undef, b.getD 155 undef, b.getD 156 undef, b.getD 157 undef, b.getD 158 undef, b.getD 159 undef, b.getD 160 undef, b.getD 161 undef, b.getD 162 undef, b.getD 163 undef, b.getD 164 undef, b.getD 165 undef, b.getD 166 undef, b.getD 167 undef, b.getD 168 undef, b.getD 169 undef, b.getD 170 undef, b.getD 171 undef, b.getD 172 undef, b.getD 173 undef, b.getD 174 undef, b.getD 175 undef, b.getD 176 undef, b.getD 177 undef, b.getD 178 undef, b.getD 179 undef, b.getD 180 undef, b.getD 181 undef, b.getD 182 undef, b.getD 183 undef, b.getD 184 undef, b.getD 185 undef], []⟩
def Pla20_F3 (b : Array Value) (u5 : Value) (u8 : Value) (u9 : Value) (u20 : Value) (u153 : Value) (u154 : Value) : Act := ⟨#[b.getD 0 undef, b.getD 1 undef, b.getD 2 undef, b.getD 3 undef, b.getD 4 undef, u5, b.getD 6 undef, b.getD 7 undef, u8, u9, b.getD 10 undef, b.getD 11 undef, b.getD 12 undef, b.getD 13 undef, b.getD 14 undef, b.getD 15 undef, b.getD 16 undef, b.getD 17 undef, b.getD 18 undef, b.getD 19 undef, u20, b.getD 21 undef, b.getD 22 undef, b.getD 23 undef, b.getD 24 undef, b.getD 25 undef, b.getD 26 undef, b.getD 27 undef, b.getD 28 undef, b.getD 29 undef, b.getD 30 undef, b.getD 31 undef, b.getD 32 undef, b.getD 33 undef, b.getD 34 undef, b.getD 35 undef, b.getD 36 undef, b.getD 37 undef, b.getD 38 undef, b.getD 39 undef, b.getD 40 undef, b.getD 41 undef, b.getD 42 undef, b.getD 43 undef, b.getD 44 undef, b.getD 45 undef, b.getD 46 undef, b.getD 47 undef, b.getD 48 undef, b.getD 49 undef, b.getD 50 undef, b.getD 51 undef, b.getD 52 undef, b.getD 53 undef, b.getD 54 undef, b.getD 55 undef, b.getD 56 undef, b.getD 57 undef, b.getD 58 undef, b.getD 59 undef, b.getD 60 undef, b.getD 61 undef, b.getD 62 undef, b.getD 63 undef, b.getD 64 undef, b.getD 65 undef, b.getD 66 undef, b.getD 67 undef, b.getD 68 undef, b.getD 69 undef, b.getD 70 undef, b.getD 71 undef, b.getD 72 undef, b.getD 73 undef, b.getD 74 undef, b.getD 75 undef, b.getD 76 undef, b.getD 77 undef, b.getD 78 undef, b.getD 79 undef, b.getD 80 undef, b.getD 81 undef, b.getD 82 undef, b.getD 83 undef, b.getD 84 undef, b.getD 85 undef, b.getD 86 undef, b.getD 87 undef, b.getD 88 undef, b.getD 89 undef, b.getD 90 undef, b.getD 91 undef, b.getD 92 undef, b.getD 93 undef, b.getD 94 undef, b.getD 95 undef, b.getD 96 undef, b.getD 97 undef, b.getD 98 undef, b.getD 99 undef, b.getD 100 undef, b.getD 101 undef, b.getD 102 undef, b.getD 103 undef, b.getD 104 undef, b.getD 105 undef, b.getD 106 undef, b.getD 107 undef, b.getD 108 undef, b.getD 109 undef, b.getD 110 undef, b.getD 111 undef, b.getD 112 undef, b.getD 113 undef, b.getD 114 undef, b.getD 115 undef, b.getD 116 undef, b.getD 117 undef, b.getD 118 undef, b.getD 119 undef, b.getD 120 undef, b.getD 121 undef, b.getD 122 undef, b.getD 123 undef, b.getD 124 undef, b.getD 125 undef, b.getD 126 undef, b.getD 127 undef, b.getD 128 undef, b.getD 129 undef, b.getD 130 undef, b.getD 131 undef, b.getD 132 undef, b.getD 133 undef, b.getD 134 undef, b.getD 135 undef, b.getD 136 undef, b.getD 137 undef, b.getD 138 undef, b.getD 139 undef, b.getD 140 undef, b.getD 141 undef, b.getD 142 undef, b.getD 143 undef, b.getD 144 undef, b.getD 145 undef, b.getD 146 undef, b.getD 147 undef, b.getD 148 undef, b.getD 149 undef, b.getD 150 undef, b.getD 151 undef, b.getD 152 undef, u153, u154, b.getD 155 undef, b.getD 156 undef, b.getD 157 undef, b.getD 158 undef, b.getD 159 undef, b.getD 160 undef, b.getD 161 undef, b.getD 162 undef, b.getD 163 undef, b.getD 164 undef, b.getD 165 undef, b.getD 166 undef, b.getD 167 undef, b.getD 168 undef, b.getD 169 undef, b.getD 170 undef, b.getD 171 undef, b.getD 172 undef, b.getD 173 undef, b.getD 174 undef, b.getD 175 undef, b.getD 176 undef, b.getD 177 undef, b.getD 178 undef, b.getD 179 undef, b.getD 180 undef, b.getD 181 undef, b.getD 182 undef, b.getD 183 undef, b.getD 184 undef, b.getD 185 undef], []⟩
def Pla20_F4 (b : Array Value) (u5 : Value) (u8 : Value) (u9 : Value) (u14 : Value) (u143 : Value) (u144 : Value) : Act := ⟨#[b.getD 0 undef, b.getD 1 undef, b.getD 2 undef, b.getD 3 undef, b.getD 4 undef, u5, b.getD 6 undef, b.getD 7 undef, u8, u9, b.getD 10 undef, b.getD 11 undef, b.getD 12 undef, b.getD 13 undef, u14, b.getD 15 undef, b.getD 16 undef, b.getD 17 undef, b.getD 18 undef, b.getD 19 undef, b.getD 20 undef, b.getD 21 undef, b.getD 22 undef, b.getD 23 undef, b.getD 24 undef, b.getD 25 undef, b.getD 26 undef, b.getD 27 undef, b.getD 28 undef, b.getD 29 undef, b.getD 30 undef, b.getD 31 undef, b.getD 32 undef, b.getD 33 undef, b.getD 34 undef, b.getD 35 undef, b.getD 36 undef, b.getD 37 undef, b.getD 38 undef, b.getD 39 undef, b.getD 40 undef, b.getD 41 undef, b.getD 42 undef, b.getD 43 undef, b.getD 44 undef, b.getD 45 undef, b.getD 46 undef, b.getD 47 undef, b.getD 48 undef, b.getD 49 undef, b.getD 50 undef, b.getD 51 undef, b.getD 52 undef, b.getD 53 undef, b.getD 54 undef, b.getD 55 undef, b.getD 56 undef, b.getD 57 undef, b.getD 58 undef, b.getD 59 undef, b.getD 60 undef, b.getD 61 undef, b.getD 62 undef, b.getD 63 undef, b.getD 64 undef, b.getD 65 undef, b.getD 66 undef, b.getD 67 undef, b.getD 68 undef, b.getD 69 undef, b.getD 70 undef, b.getD 71 undef, b.getD 72 undef, b.getD 73 undef, b.getD 74 undef, b.getD 75 undef, b.getD 76 undef, b.getD 77 undef, b.getD 78 undef, b.getD 79 undef, b.getD 80 undef, b.getD 81 undef, b.getD 82 undef, b.getD 83 undef, b.getD 84 undef, b.getD 85 undef, b.getD 86 undef, b.getD 87 undef, b.getD 88 undef, b.getD 89 undef, b.getD 90 undef, b.getD 91 undef, b.getD 92 undef, b.getD 93 undef, b.getD 94 undef, b.getD 95 undef, b.getD 96 undef, b.getD 97 undef, b.getD 98 undef, b.getD 99 undef, b.getD 100 undef, b.getD 101 undef, b.getD 102 undef, b.getD 103 undef, b.getD 104 undef, b.getD 105 undef, b.getD 106 undef, b.getD 107 undef, b.getD 108 undef, b.getD 109 undef, b.getD 110 undef, b.getD 111 undef, b.getD 112 undef, b.getD 113 undef, b.getD 114 undef, b.getD 115 undef, b.getD 116 undef, b.getD 117 undef, b.getD 118 undef, b.getD 119 undef, b.getD 120 undef, b.getD 121 undef, b.getD 122 undef, b.getD 123 undef, b.getD 124 undef, b.getD 125 undef, b.getD 126 undef, b.getD 127 undef, b.getD 128 undef, b.getD 129 undef, b.getD 130 undef, b.getD 131 undef, b.getD 132 undef, b.getD 133 undef, b.getD 134 undef, b.getD 135 undef, b.getD 136 undef, b.getD 137 undef, b.getD 138 undef, b.getD 139 undef, b.getD 140 undef, b.getD 141 undef, b.getD 142 undef, u143, u144, b.getD 145 undef, b.getD 146 undef, b.getD 147 undef, b.getD 148 undef, b.getD 149 undef, b.getD 150 undef, b.getD 151 undef, b.getD 152 undef, b.getD 153 undef, b.getD 154 undef, b.getD 155 undef, b.getD 156 undef, b.getD 157 undef, b.getD 158 undef, b.getD 159 undef, b.getD 160 undef, b.getD 161 undef, b.getD 162 undef, b.getD 163 undef, b.getD 164 undef, b.getD 165 undef, b.getD 166 undef, b.getD 167 undef, b.getD 168 undef, b.getD 169 undef, b.getD 170 undef, b.getD 171 undef, b.getD 172 undef, b.getD 173 undef, b.getD 174 undef, b.getD 175 undef, b.getD 176 undef, b.getD 177 undef, b.getD 178 undef, b.getD 179 undef, b.getD 180 undef, b.getD 181 undef, b.getD 182 undef, b.getD 183 undef, b.getD 184 undef, b.getD 185 undef], []⟩
def Pla20_F5 (b : Array Value) (u5 : Value) (u8 : Value) (u9 : Value) (u20 : Value) (u153 : Value) (u154 : Value) : Act := ⟨#[b.getD 0 undef, b.getD 1 undef, b.getD 2 undef, b.getD 3 undef, b.getD 4 undef, u5, b.getD 6 undef, b.getD 7 undef, u8, u9, b.getD 10 undef, b.getD 11 undef, b.getD 12 undef, b.getD 13 undef, b.getD 14 undef, b.getD 15 undef, b.getD 16 undef, b.getD 17 undef, b.getD 18 undef, b.getD 19 undef, u20, b.getD 21 undef, b.getD 22 undef, b.getD 23 undef, b.getD 24 undef, b.getD 25 undef, b.getD 26 undef, b.getD 27 undef, b.getD 28 undef, b.getD 29 undef, b.getD 30 undef, b.getD 31 undef, b.getD 32 undef, b.getD 33 undef, b.getD 34 undef, b.getD 35 undef, b.getD 36 undef, b.getD 37 undef, b.getD 38 undef, b.getD 39 undef, b.getD 40 undef, b.getD 41 undef, b.getD 42 undef, b.getD 43 undef, b.getD 44 undef, b.getD 45 undef, b.getD 46 undef, b.getD 47 undef, b.getD 48 undef, b.getD 49 undef, b.getD 50 undef, b.getD 51 undef, b.getD 52 undef, b.getD 53 undef, b.getD 54 undef, b.getD 55 undef, b.getD 56 undef, b.getD 57 undef, b.getD 58 undef, b.getD 59 undef, b.getD 60 undef, b.getD 61 undef, b.getD 62 undef, b.getD 63 undef, b.getD 64 undef, b.getD 65 undef, b.getD 66 undef, b.getD 67 undef, b.getD 68 undef, b.getD 69 undef, b.getD 70 undef, b.getD 71 undef, b.getD 72 undef, b.getD 73 undef, b.getD 74 undef, b.getD 75 undef, b.getD 76 undef, b.getD 77 undef, b.getD 78 undef, b.getD 79 undef, b.getD 80 undef, b.getD 81 undef, b.getD 82 undef, b.getD 83 undef, b.getD 84 undef, b.getD 85 undef, b.getD 86 undef, b.getD 87 undef, b.getD 88 undef, b.getD 89 undef, b.getD 90 undef, b.getD 91 undef, b.getD 92 undef, b.getD 93 undef, b.getD 94 undef, b.getD 95 undef, b.getD 96 undef, b.getD 97 undef, b.getD 98 undef, b.getD 99 undef, b.getD 100 undef, b.getD 101 undef, b.getD 102 undef, b.getD 103 undef, b.getD 104 undef, b.getD 105 undef, b.getD 106 undef, b.getD 107 undef, b.getD 108 undef, b.getD 109 undef, b.getD 110 undef, b.getD 111 undef, b.getD 112 undef, b.getD 113 undef, b.getD 114 undef, b.getD 115 undef, b.getD 116 undef, b.getD 117 undef, b.getD 118 undef, b.getD 119 undef, b.getD 120 undef, b.getD 121 undef, b.getD 122 undef, b.getD 123 undef, b.getD 124 undef, b.getD 125 undef, b.getD 126 undef, b.getD 127 undef, b.getD 128 undef, b.getD 129 undef, b.getD 130 undef, b.getD 131 undef, b.getD 132 undef, b.getD 133 undef, b.getD 134 undef, b.getD 135 undef, b.getD 136 undef, b.getD 137 undef, b.getD 138 undef, b.getD 139 undef, b.getD 140 undef, b.getD 141 undef, b.getD 142 undef, b.getD 143 undef, b.getD 144 undef, b.getD 145 undef, b.getD 146 undef, b.getD 147 undef, b.getD 148 undef, b.getD 149 undef, b.getD 150 undef, b.getD 151 undef, b.getD 152 undef, u153, u154, b.getD 155 undef, b.getD 156 undef, b.getD 157 undef, b.getD 158 undef, b.getD 159 undef, b.getD 160 undef, b.getD 161 undef, b.getD 162 undef, b.getD 163 undef, b.getD 164 undef, b.getD 165 undef, b.getD 166 undef, b.getD 167 undef, b.getD 168 undef, b.getD 169 undef, b.getD 170 undef, b.getD 171 undef, b.getD 172 undef, b.getD 173 undef, b.getD 174 undef, b.getD 175 undef, b.getD 176 undef, b.getD 177 undef, b.getD 178 undef, b.getD 179 undef, b.getD 180 undef, b.getD 181 undef, b.getD 182 undef, b.getD 183 undef, b.getD 184 undef, b.getD 185 undef], []⟩
theorem plays20_any (A : Option Addr) (n c : Nat) (L : List Att) (p : List UInt8) (PA : Option Addr) (pn pc : Nat) (k : List UInt8) (hk : k.length = 32) (w : World) (hv : ShaVars w) (hl : SlA w A n L) (_hnc : n ≤ c ∧ c ≤ 9223372036854775807) (hb : Byt w PA pn p) (_hpc : pn ≤ pc) (_hpnil : PA = none → pc = 0) : Calls Tryd.prog 7 #[.slice A n c, .slice PA pn pc, .agg (b8s k).toArray] w fun e w' => e = .returned (.bool true) ∧ Below w.heap.size w w' := by
  have HV := Go.Lib.hid hv
  clear hv
  have hpl_ := hb.1
  refine calls_of_wp Tryd.func7 rfl ?_
  refine wp_seq ?_
  refine Wk.reg ?_
  refine Wk.rEx 0 (some 5) _ rfl rfl (by kernel_rfl) (Wk.new_ex (.pointer (some ⟨w.heap.size, 0, none⟩)) ((b8s k).toArray) 30 (by kernel_rfl)) ?_
  rintro _ W1 ⟨rfl, hb1, ch1, sz1⟩
  have zz1 := ch1.size
  refine Wk.rPure 1 (some 6) (.bool false) rfl rfl (by kernel_rfl) (by kernel_rfl) ?_
  refine Wk.rEnd 2 rfl ?_
  refine Wk.nxt ?_
  refine wp_seq ?_
  refine wp_seq ?_
  refine Wk.reg ?_
  refine Wk.rPure 0 (some 22) (.slice A n c) rfl rfl (by kernel_rfl) (by kernel_rfl) ?_
  refine Wk.rPure 1 (some 23) (.int .i64 ((n : Nat) : Int)) rfl rfl (by kernel_rfl) (by kernel_rfl) ?_
  by_cases hx1 : ((n : Nat) : Int) > (300 : Int)
  · refine Wk.rPure 2 (some 24) (.bool true) rfl rfl (by kernel_rfl) (Wk.boolT (b := decide (((n : Nat) : Int) > (300 : Int))) (decide_eq_true (by first | exact hx1 | omega)) (by kernel_rfl)) ?_
    refine Wk.rPure 3 (some 25) (.bool true) rfl rfl (by kernel_rfl) (by kernel_rfl) ?_
    refine Wk.rPass 4 (some 26) rfl rfl (by kernel_rfl) ?_
    refine Wk.rPass 5 (some 27) rfl rfl (by kernel_rfl) ?_
    refine Wk.rPass 6 (some 28) rfl rfl (by kernel_rfl) ?_
    refine Wk.rPure 7 (some 29) (.bool true) rfl rfl (by kernel_rfl) (by kernel_rfl) ?_
    refine Wk.rEnd 8 rfl ?_
    refine Wk.nxt ?_
    refine wp_cond_true (by kernel_rfl) ?_
    refine wp_seq ?_
    refine Wk.reg ?_
    refine Wk.rCall 0 (some 30) 13 [] #[] [] rfl rfl (by kernel_rfl) rfl (by kernel_rfl) (by kernel_rfl) ?_
    have kk1 : Wk.Chg [] w W1 := Wk.Chg.step ((Wk.Chg.refl _).more (by simp)) ch1 trivial
    refine (known20_any W1 (HV.out.below (Wk.Chg.below0 kk1))).mono ?_
    rintro _ W2 ⟨rfl, ch2⟩
    have zz2 := ch2.size
    refine ⟨_, rfl, ?_⟩
    refine Wk.rPure 1 (some 6) (.bool true) rfl rfl (by kernel_rfl) (by kernel_rfl) ?_
    refine Wk.rEnd 2 rfl ?_
    refine Wk.nxt ?_
    refine wp_ret ?_
    refine Wk.thR ?_
    have kk2 := Wk.Chg.step kk1 ch2 trivial
    refine Wk.ret (.bool true) rfl (by kernel_rfl) ?_
    exact ⟨rfl, Wk.Chg.below0 kk2⟩
  · refine Wk.rPure 2 (some 24) (.bool false) rfl rfl (by kernel_rfl) (Wk.boolF (b := decide (((n : Nat) : Int) > (300 : Int))) (decide_eq_false (by first | exact hx1 | omega)) (by kernel_rfl)) ?_
    refine Wk.rPure 3 (some 25) (.bool false) rfl rfl (by kernel_rfl) (by kernel_rfl) ?_
    refine Wk.rPure 4 (some 26) (.slice PA pn pc) rfl rfl (by kernel_rfl) (by kernel_rfl) ?_
    refine Wk.rPure 5 (some 27) (.int .i64 ((pn : Nat) : Int)) rfl rfl (by kernel_rfl) (by kernel_rfl) ?_
    by_cases hx2 : ((pn : Nat) : Int) > (100 : Int)
    · refine Wk.rPure 6 (some 28) (.bool true) rfl rfl (by kernel_rfl) (Wk.boolT (b := decide (((pn : Nat) : Int) > (100 : Int))) (decide_eq_true (by first | exact hx2 | omega)) (by kernel_rfl)) ?_
      refine Wk.rPure 7 (some 29) (.bool true) rfl rfl (by kernel_rfl) (by kernel_rfl) ?_
      refine Wk.rEnd 8 rfl ?_
      refine Wk.nxt ?_
      refine wp_cond_true (by kernel_rfl) ?_
      refine wp_seq ?_
      refine Wk.reg ?_
      refine Wk.rCall 0 (some 30) 13 [] #[] [] rfl rfl (by kernel_rfl) rfl (by kernel_rfl) (by kernel_rfl) ?_
      have kk3 : Wk.Chg [] w W1 := Wk.Chg.step ((Wk.Chg.refl _).more (by simp)) ch1 trivial
      refine (known20_any W1 (HV.out.below (Wk.Chg.below0 kk3))).mono ?_
      rintro _ W3 ⟨rfl, ch3⟩
      have zz3 := ch3.size
      refine ⟨_, rfl, ?_⟩
      refine Wk.rPure 1 (some 6) (.bool true) rfl rfl (by kernel_rfl) (by kernel_rfl) ?_
      refine Wk.rEnd 2 rfl ?_
      refine Wk.nxt ?_
      refine wp_ret ?_
      refine Wk.thR ?_
      have kk4 := Wk.Chg.step kk3 ch3 trivial
      refine Wk.ret (.bool true) rfl (by kernel_rfl) ?_
      exact ⟨rfl, Wk.Chg.below0 kk4⟩
    · refine Wk.rPure 6 (some 28) (.bool false) rfl rfl (by kernel_rfl) (Wk.boolF (b := decide (((pn : Nat) : Int) > (100 : Int))) (decide_eq_false (by first | exact hx2 | omega)) (by kernel_rfl)) ?_
      refine Wk.rPure 7 (some 29) (.bool false) rfl rfl (by kernel_rfl) (by kernel_rfl) ?_
      refine Wk.rEnd 8 rfl ?_
      refine Wk.nxt ?_
      refine wp_cond_false (by kernel_rfl) ?_
      refine wp_skip ?_
      refine Wk.nxt ?_
      refine wp_seq ?_
      refine Wk.reg ?_
      refine Wk.rCall 0 (some 31) 20 [] #[] [] rfl rfl (by kernel_rfl) rfl (by kernel_rfl) (by kernel_rfl) ?_
      refine (Hnew_any W1).mono ?_
      rintro _ W4 ⟨qh1, hc, kc, Hh, Hk, rfl, hqh1, hqz1, ch4⟩
      have zz4 := ch4.size
      have hcs := hc_size Hh.out
      have kcs := kc_size Hk.out
      refine ⟨_, rfl, ?_⟩
      refine Wk.rPure 1 (some 7) (.pointer (some ⟨qh1, 0, none⟩)) rfl rfl (by kernel_rfl) (by kernel_rfl) ?_
      refine Wk.rEnd 2 rfl ?_
      refine Wk.nxt ?_
      refine wp_seq ?_
      refine Wk.reg ?_
      refine Wk.rCall 0 (some 32) 14 [] #[] [] rfl rfl (by kernel_rfl) rfl (by kernel_rfl) (by kernel_rfl) ?_
      refine (New_any W4).mono ?_
      rintro _ W5 ⟨FF1, rfl, hD1, ch5⟩
      have hM1 := Mur.SetF.mem hD1
      have zz5 := (hM1 _ (Mur.SetF.self hD1)).2
      have zz6 := ch5.size
      refine ⟨_, rfl, ?_⟩
      refine Wk.rEx 1 (some 33) _ rfl rfl (by kernel_rfl) (Wk.new_ex (.slice (some ⟨W5.heap.size, 0, none⟩) 0 0) #[] 32 (by kernel_rfl)) ?_
      rintro _ W6 ⟨rfl, hb2, ch6, sz2⟩
      have zz7 := ch6.size
      refine Wk.rPure 2 (some 8) (.pointer (some ⟨W4.heap.size, 0, none⟩)) rfl rfl (by kernel_rfl) (by kernel_rfl) ?_
      refine Wk.rPure 3 (some 9) (.slice (some ⟨W5.heap.size, 0, none⟩) 0 0) rfl rfl (by kernel_rfl) (by kernel_rfl) ?_
      refine Wk.rEnd 4 rfl ?_
      refine Wk.nxt ?_
      refine wp_seq ?_
      refine wp_seq ?_
      refine Wk.reg ?_
      refine Wk.rPure 0 (some 34) (.pointer (some ⟨W4.heap.size, 0, none⟩)) rfl rfl (by kernel_rfl) (by kernel_rfl) ?_
      refine Wk.rPure 1 (some 35) (.bool false) rfl rfl (by kernel_rfl) (by kernel_rfl) ?_
      refine Wk.rEnd 2 rfl ?_
      refine Wk.nxt ?_
      refine wp_cond_false (by kernel_rfl) ?_
      refine wp_skip ?_
      refine Wk.nxt ?_
      refine wp_seq ?_
      refine wp_seq ?_
      refine Wk.reg ?_
      refine Wk.rPure 0 (some 36) (.slice A n c) rfl rfl (by kernel_rfl) (by kernel_rfl) ?_
      refine Wk.rPure 1 (some 37) (.int .i64 ((n : Nat) : Int)) rfl rfl (by kernel_rfl) (by kernel_rfl) ?_
      refine Wk.rPure 2 (some 38) (.int .i64 0) rfl rfl (by kernel_rfl) (by kernel_rfl) ?_
      refine Wk.rEnd 3 rfl ?_
      refine Wk.nxt ?_
      refine wp_block ?_
      have hD2 := Mur.SetF.chg hD1 ch6 (fun s hs => trivial)
      refine Wk.loop (fun m_ a wr => ∃ (j : Nat) (g : Nat) (L1 : List Att) (F1 : List Nat) (DA : Option Addr) (dn : Nat) (dc : Nat), m_ = n - j ∧ a = Pla20_F1 a.tmps (.slice A n c) (.slice PA pn pc) (.pointer (some ⟨w.heap.size, 0, none⟩)) (.pointer (some ⟨qh1, 0, none⟩)) (.pointer (some ⟨g, 0, none⟩)) (.slice DA dn dc) (.int .i64 ((n : Nat) : Int)) (.int .i64 ((j : Nat) : Int)) ∧ j ≤ n ∧ Mur.SetF 32 57 W4.heap.size wr g L1 F1 ∧ SlA wr DA dn L1 ∧ (dn ≤ dc ∧ dc ≤ 9223372036854775807) ∧ (∀ g_ off_, DA = some ⟨g_, off_, none⟩ → g_ ∉ F1 ∧ g_ < wr.heap.size) ∧ wr.heap[w.heap.size]? = some (.cells (b8s k).toArray 30 (0, 0)) ∧ wr.heap[qh1]? = some (.cells (hc ++ kc) 97 (0, 0)) ∧ Wk.Chg [] w wr ∧ (qh1 < W4.heap.size ∧ w.heap.size < W4.heap.size)) (n - 0) ?_ ?_
      · have kk5 : Wk.Chg [] w W1 := Wk.Chg.step ((Wk.Chg.refl _).more (by simp)) ch1 trivial
        have kk6 := Wk.Chg.step kk5 ch4 trivial
        have kk7 := Wk.Chg.step kk6 ch5 trivial
        have kk8 := Wk.Chg.step kk7 ch6 trivial
        refine ⟨0, W4.heap.size, [], FF1, some ⟨W5.heap.size, 0, none⟩, 0, 0, rfl, by kernel_rfl, (by omega), hD2, (Mur.SlA.nil _ _), (by omega), (fun g_ off_ e_ => by cases e_; exact ⟨fun ht_ => by have := hM1 _ ht_; omega, by omega⟩), (Wk.Chg.hp ch6 (Wk.Chg.hp ch5 (Wk.Chg.hp ch4 hb1 trivial) trivial) trivial), (Wk.Chg.hp ch6 (Wk.Chg.hp ch5 hqh1 trivial) trivial), kk8, (by omega)⟩
      · rintro mm1 aa1 W7 ⟨j, g, L1, F1, DA, dn, dc, hmm1, hF1, hj, hD1, hdoc, hdnc, hnm, hX, hHq, HB, hql⟩
        generalize aa1.tmps = bb1 at hF1
        subst hF1
        have hzB := HB.size
        have hlL := hl.len
        have hM1 := Mur.SetF.mem hD1
        have hg1_ := hM1 _ (Mur.SetF.self hD1)
        have hsrt1 := Mur.SetF.srt hD1
        have hlen1 := Mur.SetF.len hD1
        have hok1 := Mur.SetF.ok hD1
        have hdl_ := hdoc.len
        by_cases hlt : j < n
        · obtain ⟨g_x, o_x, rfl, _⟩ := hl.ex (by omega)
          obtain ⟨x, hx⟩ : ∃ x, L[j]? = some x := ⟨_, List.getElem?_eq_getElem (by have := hl.len; omega)⟩
          refine wp_seq ?_
          refine Wk.reg ?_
          refine Wk.rPure 0 (some 39) (.bool true) rfl rfl (by kernel_rfl) (Wk.boolT (b := decide (((j : Nat) : Int) < ((n : Nat) : Int))) (decide_eq_true (by omega)) (by kernel_rfl)) ?_
          refine Wk.rEnd 1 rfl ?_
          refine Wk.nxt ?_
          refine wp_seq ?_
          refine wp_cond_true (by kernel_rfl) ?_
          refine wp_skip ?_
          refine Wk.nxt ?_
          refine wp_seq ?_
          refine wp_block ?_
          refine wp_seq ?_
          refine Wk.reg ?_
          refine Wk.rPure 0 (some 40) (.int .i64 ((j : Nat) : Int)) rfl rfl (by kernel_rfl) (by kernel_rfl) ?_
          refine Wk.rPure 1 (some 10) (.int .i64 ((j : Nat) : Int)) rfl rfl (by kernel_rfl) (by kernel_rfl) ?_
          refine Wk.rEnd 2 rfl ?_
          refine Wk.nxt ?_
          refine wp_seq ?_
          refine Wk.reg ?_
          refine Wk.rPure 0 (some 42) (.slice DA dn dc) rfl rfl (by kernel_rfl) (by kernel_rfl) ?_
          refine Wk.rPure 1 (some 43) (.slice (some ⟨g_x, o_x, none⟩) n c) rfl rfl (by kernel_rfl) (by kernel_rfl) ?_
          refine Wk.rPure 2 (some 44) (.int .i64 ((j : Nat) : Int)) rfl rfl (by kernel_rfl) (by kernel_rfl) ?_
          refine Wk.rPure 3 (some 45) (.pointer (some ⟨g_x, o_x + j * 97, none⟩)) rfl rfl (by kernel_rfl) (Wk.index_sl 22 32 (.tmp 43) (.tmp 44) rfl Tryd.underlying22 97 (by kernel_rfl) g_x o_x n c j .i64 (by kernel_rfl) (by kernel_rfl) (by omega)) ?_
          refine Wk.rPure 4 (some 46) (.agg ((Mur.attC x.k x.r x.n x.t).toArray)) rfl rfl (by kernel_rfl) (Wk.loadR 32 (.tmp 45) rfl _ Tryd.underlying32 rfl g_x (o_x + j * 97) (by kernel_rfl) (Mur.attC x.k x.r x.n x.t) (by rw [Mur.attC_length x.hk x.hr x.ht]; kernel_rfl) ((Mur.SlA.chg hl HB (fun g off e hl => trivial)).elem hx)) ?_
          refine Wk.rCall 5 (some 47) 26 [.tmp 42, .tmp 46] #[50, 32] [.slice DA dn dc, .agg ((Mur.attC x.k x.r x.n x.t).toArray)] rfl rfl (by kernel_rfl) rfl (by kernel_rfl) (by kernel_rfl) ?_
          refine (Radd_any DA dn dc L1 x W7 hdoc hsrt1 hlen1 (by omega)).mono ?_
          rintro _ W8 ⟨DA1, dn1, dc1, rfl, hd_1, hpl1, hnc1, ch7⟩
          have zz8 := ch7.size
          have hnm1 : (∀ g_ off_, DA1 = some ⟨g_, off_, none⟩ → g_ ∉ F1 ∧ g_ < W8.heap.size) := fun g_ off_ e_ => hpl1.elim (fun h1_ => by
            rw [h1_] at e_
            have h2_ := hnm g_ off_ e_
            exact ⟨h2_.1, by omega⟩) (fun h1_ => ⟨fun ht_ => by
            have h2_ := h1_ g_ off_ e_
            have h3_ := hM1 g_ ht_
            omega, (h1_ g_ off_ e_).2⟩)
          refine ⟨_, rfl, ?_⟩
          refine Wk.rPure 6 (some 41) (.tuple #[.slice DA1 dn1 dc1, .int .i64 ((Mur.addS x L1).2)]) rfl rfl (by kernel_rfl) (by kernel_rfl) ?_
          refine Wk.rPure 7 (some 48) (.slice DA1 dn1 dc1) rfl rfl (by kernel_rfl) (by kernel_rfl) ?_
          refine Wk.rPure 8 (some 49) (.int .i64 ((Mur.addS x L1).2)) rfl rfl (by kernel_rfl) (by kernel_rfl) ?_
          refine Wk.rPure 9 (some 11) (.slice DA1 dn1 dc1) rfl rfl (by kernel_rfl) (by kernel_rfl) ?_
          refine Wk.rPure 10 (some 12) (.int .i64 ((Mur.addS x L1).2)) rfl rfl (by kernel_rfl) (by kernel_rfl) ?_
          refine Wk.rEnd 11 rfl ?_
          refine Wk.nxt ?_
          refine wp_seq ?_
          refine wp_seq ?_
          refine Wk.reg ?_
          refine Wk.rPure 0 (some 50) (.pointer (some ⟨g, 0, none⟩)) rfl rfl (by kernel_rfl) (by kernel_rfl) ?_
          refine Wk.rPure 1 (some 51) (.slice (some ⟨g_x, o_x, none⟩) n c) rfl rfl (by kernel_rfl) (by kernel_rfl) ?_
          refine Wk.rPure 2 (some 52) (.int .i64 ((j : Nat) : Int)) rfl rfl (by kernel_rfl) (by kernel_rfl) ?_
          refine Wk.rPure 3 (some 53) (.pointer (some ⟨g_x, o_x + j * 97, none⟩)) rfl rfl (by kernel_rfl) (Wk.index_sl 22 32 (.tmp 51) (.tmp 52) rfl Tryd.underlying22 97 (by kernel_rfl) g_x o_x n c j .i64 (by kernel_rfl) (by kernel_rfl) (by omega)) ?_
          have kk9 := Wk.Chg.step HB ch7 trivial
          refine Wk.rPure 4 (some 54) (.agg ((Mur.attC x.k x.r x.n x.t).toArray)) rfl rfl (by kernel_rfl) (Wk.loadR 32 (.tmp 53) rfl _ Tryd.underlying32 rfl g_x (o_x + j * 97) (by kernel_rfl) (Mur.attC x.k x.r x.n x.t) (by rw [Mur.attC_length x.hk x.hr x.ht]; kernel_rfl) ((Mur.SlA.chg hl kk9 (fun g off e hl => trivial)).elem hx)) ?_
          refine Wk.rCall 5 (some 55) 15 [.tmp 50, .tmp 54] #[24, 32] [.pointer (some ⟨g, 0, none⟩), .agg ((Mur.attC x.k x.r x.n x.t).toArray)] rfl rfl (by kernel_rfl) rfl (by kernel_rfl) (by kernel_rfl) ?_
          have hD3 := Mur.SetF.chg hD1 ch7 (fun s hs => trivial)
          refine (Add_any W4.heap.size L1 g F1 x W8 hD3).mono ?_
          rintro _ W10 ⟨FF2, rfl, hD4, ch8, no1⟩
          have hM2 := Mur.SetF.mem hD4
          have zz9 := ch8.size
          have hdoc1 : SlA W10 DA1 dn1 ((Mur.addS x L1).1) := Mur.SlA.chg hd_1 ch8 (fun g_ off_ e_ _ => Wk.off_of_not (hnm1 g_ off_ e_).1)
          have hnm2 : (∀ g_ off_, DA1 = some ⟨g_, off_, none⟩ → g_ ∉ FF2 ∧ g_ < W10.heap.size) := fun g_ off_ e_ => ⟨fun ht_ => (Mur.newOr_iff.1 no1 g_ ht_).elim (hnm1 g_ off_ e_).1 (fun h_ => by have := (hnm1 g_ off_ e_).2; omega), by have := (hnm1 g_ off_ e_).2; omega⟩
          refine ⟨_, rfl, ?_⟩
          refine Wk.rPure 6 (some 56) (.int .i64 ((Mur.addS x L1).2)) rfl rfl (by kernel_rfl) (by kernel_rfl) ?_
          by_cases hx3 : ((Mur.addS x L1).2) ≠ ((Mur.addS x L1).2)
          · refine Wk.rPure 7 (some 57) (.bool true) rfl rfl (by kernel_rfl) (Wk.boolT (b := (((Mur.addS x L1).2) != ((Mur.addS x L1).2))) (bne_iff_ne.2 (by first | exact hx3 | omega)) (by kernel_rfl)) ?_
            refine Wk.rPure 8 (some 58) (.bool true) rfl rfl (by kernel_rfl) (by kernel_rfl) ?_
            refine Wk.rPass 9 (some 59) rfl rfl (by kernel_rfl) ?_
            refine Wk.rPass 10 (some 60) rfl rfl (by kernel_rfl) ?_
            refine Wk.rPass 11 (some 61) rfl rfl (by kernel_rfl) ?_
            refine Wk.rPass 12 (some 62) rfl rfl (by kernel_rfl) ?_
            refine Wk.rPass 13 (some 63) rfl rfl (by kernel_rfl) ?_
            refine Wk.rPass 14 (some 64) rfl rfl (by kernel_rfl) ?_
            refine Wk.rPass 15 (some 65) rfl rfl (by kernel_rfl) ?_
            refine Wk.rPass 16 (some 66) rfl rfl (by kernel_rfl) ?_
            refine Wk.rPass 17 (some 67) rfl rfl (by kernel_rfl) ?_
            refine Wk.rPass 18 (some 68) rfl rfl (by kernel_rfl) ?_
            refine Wk.rPass 19 (some 69) rfl rfl (by kernel_rfl) ?_
            refine Wk.rPass 20 (some 70) rfl rfl (by kernel_rfl) ?_
            refine Wk.rPass 21 (some 71) rfl rfl (by kernel_rfl) ?_
            refine Wk.rPure 22 (some 72) (.bool true) rfl rfl (by kernel_rfl) (by kernel_rfl) ?_
            refine Wk.rEnd 23 rfl ?_
            refine Wk.nxt ?_
            refine wp_cond_true (by kernel_rfl) ?_
            refine wp_seq ?_
            refine Wk.reg ?_
            refine Wk.rPure 0 (some 6) (.bool false) rfl rfl (by kernel_rfl) (by kernel_rfl) ?_
            refine Wk.rEnd 1 rfl ?_
            refine Wk.nxt ?_
            refine wp_ret ?_
            refine Wk.thR ?_
            refine Wk.inR ?_
            refine Wk.thR ?_
            refine Wk.thR ?_
            refine Wk.inR ?_
            refine Wk.thR ?_
            exfalso; omega
          · refine Wk.rPure 7 (some 57) (.bool false) rfl rfl (by kernel_rfl) (Wk.boolF (b := (((Mur.addS x L1).2) != ((Mur.addS x L1).2))) (bne_eq_false_iff_eq.2 (by first | exact hx3 | omega)) (by kernel_rfl)) ?_
            refine Wk.rPure 8 (some 58) (.bool false) rfl rfl (by kernel_rfl) (by kernel_rfl) ?_
            refine Wk.rPure 9 (some 59) (.pointer (some ⟨g, 0, none⟩)) rfl rfl (by kernel_rfl) (by kernel_rfl) ?_
            refine Wk.rPure 10 (some 60) (.slice (some ⟨g_x, o_x, none⟩) n c) rfl rfl (by kernel_rfl) (by kernel_rfl) ?_
            refine Wk.rPure 11 (some 61) (.int .i64 ((j : Nat) : Int)) rfl rfl (by kernel_rfl) (by kernel_rfl) ?_
            refine Wk.rPure 12 (some 62) (.pointer (some ⟨g_x, o_x + j * 97, none⟩)) rfl rfl (by kernel_rfl) (Wk.index_sl 22 32 (.tmp 60) (.tmp 61) rfl Tryd.underlying22 97 (by kernel_rfl) g_x o_x n c j .i64 (by kernel_rfl) (by kernel_rfl) (by omega)) ?_
            have kk10 := Wk.Chg.step kk9 ch8 (Mur.newOr_iff.2 (fun t ht => .inr (by have := hM1 t ht; omega)))
            refine Wk.rPure 13 (some 63) (.agg ((Mur.attC x.k x.r x.n x.t).toArray)) rfl rfl (by kernel_rfl) (Wk.loadR 32 (.tmp 62) rfl _ Tryd.underlying32 rfl g_x (o_x + j * 97) (by kernel_rfl) (Mur.attC x.k x.r x.n x.t) (by rw [Mur.attC_length x.hk x.hr x.ht]; kernel_rfl) ((Mur.SlA.chg hl kk10 (fun g off e hl => trivial)).elem hx)) ?_
            refine Wk.rCall 14 (some 64) 24 [.tmp 59, .tmp 63] #[24, 32] [.pointer (some ⟨g, 0, none⟩), .agg ((Mur.attC x.k x.r x.n x.t).toArray)] rfl rfl (by kernel_rfl) rfl (by kernel_rfl) (by kernel_rfl) ?_
            by_cases hmm_ : x ∈ (Mur.addS x L1).1
            · have hcd := (Mur.has_code (x := x) hlen1 hok1).1 hmm_
              refine (Has_any W4.heap.size ((Mur.addS x L1).1) g FF2 x W10 hD4).mono ?_
              rw [decide_eq_true hmm_]
              rintro _ W11 ⟨rfl, ch9⟩
              have zz10 := ch9.size
              refine ⟨_, rfl, ?_⟩
              refine Wk.rPure 15 (some 65) (.int .i64 ((Mur.addS x L1).2)) rfl rfl (by kernel_rfl) (by kernel_rfl) ?_
              by_cases hx4 : ((Mur.addS x L1).2) = (0 : Int)
              · refine Wk.rPure 16 (some 66) (.bool true) rfl rfl (by kernel_rfl) (Wk.boolT (b := (((Mur.addS x L1).2) == (0 : Int))) (beq_iff_eq.2 (by first | exact hx4 | omega)) (by kernel_rfl)) ?_
                refine Wk.rPure 17 (some 67) (.bool true) rfl rfl (by kernel_rfl) (by kernel_rfl) ?_
                refine Wk.rPass 18 (some 68) rfl rfl (by kernel_rfl) ?_
                refine Wk.rPass 19 (some 69) rfl rfl (by kernel_rfl) ?_
                refine Wk.rPure 20 (some 70) (.bool true) rfl rfl (by kernel_rfl) (by kernel_rfl) ?_
                refine Wk.rPure 21 (some 71) (.bool false) rfl rfl (by kernel_rfl) (by kernel_rfl) ?_
                refine Wk.rPure 22 (some 72) (.bool false) rfl rfl (by kernel_rfl) (by kernel_rfl) ?_
                refine Wk.rEnd 23 rfl ?_
                refine Wk.nxt ?_
                refine wp_cond_false (by kernel_rfl) ?_
                refine wp_skip ?_
                refine Wk.nxt ?_
                refine wp_seq ?_
                refine Wk.reg ?_
                refine Wk.rPure 0 (some 73) (.slice DA1 dn1 dc1) rfl rfl (by kernel_rfl) (by kernel_rfl) ?_
                refine Wk.rPure 1 (some 9) (.slice DA1 dn1 dc1) rfl rfl (by kernel_rfl) (by kernel_rfl) ?_
                refine Wk.rEnd 2 rfl ?_
                refine Wk.nxt ?_
                refine wp_seq ?_
                refine Wk.reg ?_
                refine Wk.rPure 0 (some 74) (.int .i64 ((j : Nat) : Int)) rfl rfl (by kernel_rfl) (by kernel_rfl) ?_
                refine Wk.rPure 1 (some 75) (.slice (some ⟨g_x, o_x, none⟩) n c) rfl rfl (by kernel_rfl) (by kernel_rfl) ?_
                refine Wk.rPure 2 (some 76) (.int .i64 ((n : Nat) : Int)) rfl rfl (by kernel_rfl) (by kernel_rfl) ?_
                refine Wk.rPure 3 (some 77) (.int .i64 ((n / 2 : Nat) : Int)) rfl rfl (by kernel_rfl) (Mur.quo_nat 3 3 (.tmp 76) (.const (.int .i64 2)) rfl n 2 (by kernel_rfl) (by kernel_rfl) (by omega) (by omega)) ?_
                by_cases hx5 : ((j : Nat) : Int) = ((n / 2 : Nat) : Int)
                · refine Wk.rPure 4 (some 78) (.bool true) rfl rfl (by kernel_rfl) (Wk.boolT (b := (((j : Nat) : Int) == ((n / 2 : Nat) : Int))) (beq_iff_eq.2 (by first | exact hx5 | omega)) (by kernel_rfl)) ?_
                  refine Wk.rEnd 5 rfl ?_
                  refine Wk.nxt ?_
                  refine wp_cond_true (by kernel_rfl) ?_
                  refine wp_seq ?_
                  refine Wk.reg ?_
                  refine Wk.rPure 0 (some 79) (.pointer (some ⟨g, 0, none⟩)) rfl rfl (by kernel_rfl) (by kernel_rfl) ?_
                  refine Wk.rCall 1 (some 80) 27 [.tmp 79] #[24] [.pointer (some ⟨g, 0, none⟩)] rfl rfl (by kernel_rfl) rfl (by kernel_rfl) (by kernel_rfl) ?_
                  have hD5 := Mur.SetF.chg hD4 ch9 (fun s hs => trivial)
                  refine (Copy_any W4.heap.size ((Mur.addS x L1).1) g FF2 W11 hD5).mono ?_
                  rintro _ W12 ⟨gc1, FF3, rfl, hD6, ch10⟩
                  have hM3 := Mur.SetF.mem hD6
                  have zz11 := hM3 _ (Mur.SetF.self hD6)
                  have zz12 := ch10.size
                  have jj1 : Mur.Dj FF3 FF2 := fun s h1 h2 => by have := hM3 s h1; have := hM2 s h2; omega
                  have jj2 : Mur.Dj FF2 FF3 := fun s h1 h2 => jj1 s h2 h1
                  have hnm3 : (∀ g_ off_, DA1 = some ⟨g_, off_, none⟩ → g_ ∉ FF3 ∧ g_ < W12.heap.size) := fun g_ off_ e_ => ⟨fun ht_ => by have h1_ := hM3 g_ ht_; have := (hnm2 g_ off_ e_).2; omega, by have := (hnm2 g_ off_ e_).2; omega⟩
                  refine ⟨_, rfl, ?_⟩
                  refine Wk.rPure 2 (some 13) (.pointer (some ⟨gc1, 0, none⟩)) rfl rfl (by kernel_rfl) (by kernel_rfl) ?_
                  refine Wk.rEnd 3 rfl ?_
                  refine Wk.nxt ?_
                  refine wp_seq ?_
                  refine Wk.reg ?_
                  refine Wk.rPure 0 (some 81) (.pointer (some ⟨g, 0, none⟩)) rfl rfl (by kernel_rfl) (by kernel_rfl) ?_
                  refine Wk.rPure 1 (some 82) (.agg ((b8s [9, 9, 9, 0, 0, 0, 0, 0, 0, 0, 0, 0, 0, 0, 0, 0, 0, 0, 0, 0, 0, 0, 0, 0, 0, 0, 0, 0, 0, 0, 0, 0]).toArray)) rfl rfl (by kernel_rfl) (by kernel_rfl) ?_
                  refine Wk.rPure 2 (some 83) (.agg ((Mur.attC ([9, 9, 9, 0, 0, 0, 0, 0, 0, 0, 0, 0, 0, 0, 0, 0, 0, 0, 0, 0, 0, 0, 0, 0, 0, 0, 0, 0, 0, 0, 0, 0]) Mur.z32 4999 Mur.z32).toArray)) rfl rfl (by kernel_rfl) (Mur.run_built 32 _ rfl [(0, .agg ((b8s [9, 9, 9, 0, 0, 0, 0, 0, 0, 0, 0, 0, 0, 0, 0, 0, 0, 0, 0, 0, 0, 0, 0, 0, 0, 0, 0, 0, 0, 0, 0, 0]).toArray)), (2, .int .i64 4999)] (by kernel_rfl) _ (built2 rfl)) ?_
                  refine Wk.rCall 3 (some 84) 15 [.tmp 81, .tmp 83] #[24, 32] [.pointer (some ⟨g, 0, none⟩), .agg ((Mur.attC ([9, 9, 9, 0, 0, 0, 0, 0, 0, 0, 0, 0, 0, 0, 0, 0, 0, 0, 0, 0, 0, 0, 0, 0, 0, 0, 0, 0, 0, 0, 0, 0]) Mur.z32 4999 Mur.z32).toArray)] rfl rfl (by kernel_rfl) rfl (by kernel_rfl) (by kernel_rfl) ?_
                  have hdoc2 := (Mur.SlA.chg (Mur.SlA.chg hdoc1 ch9 (fun g off e hl => trivial)) ch10 (fun g off e hl => trivial))
                  have hD7 := Mur.SetF.chg hD5 ch10 (fun s hs => trivial)
                  refine (Add_any W4.heap.size ((Mur.addS x L1).1) g FF2 Mur.k9A W12 hD7).mono ?_
                  rintro _ W13 ⟨FF4, rfl, hD8, ch11, no2⟩
                  have hM4 := Mur.SetF.mem hD8
                  have zz13 := ch11.size
                  have hD9 := Mur.SetF.chg hD6 ch11 (fun s hs => Mur.Dj.off1 jj2 hs)
                  have jj3 : Mur.Dj FF4 FF3 := fun s hs ht => by
                    rcases Mur.newOr_iff.1 no2 s hs with h1 | h1
                    · exact jj2 s h1 ht
                    · have := hM3 s ht; omega
                  have jj4 : Mur.Dj FF3 FF4 := fun s hs ht => jj3 s ht hs
                  have hdoc3 : SlA W13 DA1 dn1 ((Mur.addS x L1).1) := Mur.SlA.chg hdoc2 ch11 (fun g_ off_ e_ _ => Wk.off_of_not (hnm2 g_ off_ e_).1)
                  have hnm4 : (∀ g_ off_, DA1 = some ⟨g_, off_, none⟩ → g_ ∉ FF4 ∧ g_ < W13.heap.size) := fun g_ off_ e_ => ⟨fun ht_ => (Mur.newOr_iff.1 no2 g_ ht_).elim (hnm2 g_ off_ e_).1 (fun h_ => by have := (hnm2 g_ off_ e_).2; omega), by have := (hnm2 g_ off_ e_).2; omega⟩
                  refine ⟨_, rfl, ?_⟩
                  refine Wk.rEnd 4 rfl ?_
                  refine Wk.nxt ?_
                  refine wp_seq ?_
                  refine wp_seq ?_
                  refine Wk.reg ?_
                  refine Wk.rPure 0 (some 85) (.pointer (some ⟨gc1, 0, none⟩)) rfl rfl (by kernel_rfl) (by kernel_rfl) ?_
                  refine Wk.rPure 1 (some 86) (.bool false) rfl rfl (by kernel_rfl) (by kernel_rfl) ?_
                  refine Wk.rEnd 2 rfl ?_
                  refine Wk.nxt ?_
                  refine wp_cond_false (by kernel_rfl) ?_
                  refine wp_skip ?_
                  refine Wk.nxt ?_
                  refine Wk.reg ?_
                  refine Wk.rPure 0 (some 87) (.pointer (some ⟨gc1, 0, none⟩)) rfl rfl (by kernel_rfl) (by kernel_rfl) ?_
                  refine Wk.rPure 1 (some 8) (.pointer (some ⟨gc1, 0, none⟩)) rfl rfl (by kernel_rfl) (by kernel_rfl) ?_
                  refine Wk.rEnd 2 rfl ?_
                  refine Wk.inN ?_
                  refine Wk.nxt ?_
                  refine Wk.reg ?_
                  refine Wk.rPure 0 (some 88) (.int .i64 ((j + 1 : Nat) : Int)) rfl rfl (by kernel_rfl) (Wk.int64 (n := ((j : Nat) : Int) + 1) (z := ((j + 1 : Nat) : Int)) (by omega) (by omega) (by omega) (by kernel_rfl)) ?_
                  refine Wk.rPure 1 (some 38) (.int .i64 ((j + 1 : Nat) : Int)) rfl rfl (by kernel_rfl) (by kernel_rfl) ?_
                  refine Wk.rEnd 2 rfl ?_
                  refine Wk.nxt ?_
                  have kk11 := Wk.Chg.step kk10 ch9 trivial
                  have kk12 := Wk.Chg.step kk11 ch10 trivial
                  have kk13 := Wk.Chg.step kk12 ch11 (Mur.newOr_iff.2 (fun t ht => .inr (by have := hM2 t ht; omega)))
                  refine ⟨_, ?_, j + 1, gc1, (Mur.addS x L1).1, FF3, DA1, dn1, dc1, rfl, by kernel_rfl, (by omega), (Mur.SetF.low hD9 (by omega)), hdoc3, (by omega), (fun g_ off_ e_ => by have h1_ := hnm3 g_ off_ e_; exact ⟨h1_.1, by omega⟩), (Wk.Chg.hp ch11 (Wk.Chg.hp ch10 (Wk.Chg.hp ch9 (Wk.Chg.hp ch8 (Wk.Chg.hp ch7 hX trivial) (Mur.off_iff.2 (fun t ht => by have := hM1 t ht; omega))) trivial) trivial) (Mur.off_iff.2 (fun t ht => by have := hM2 t ht; omega))), (Wk.Chg.hp ch11 (Wk.Chg.hp ch10 (Wk.Chg.hp ch9 (Wk.Chg.hp ch8 (Wk.Chg.hp ch7 hHq trivial) (Mur.off_iff.2 (fun t ht => by have := hM1 t ht; omega))) trivial) trivial) (Mur.off_iff.2 (fun t ht => by have := hM2 t ht; omega))), kk13, hql⟩
                  · omega
                · refine Wk.rPure 4 (some 78) (.bool false) rfl rfl (by kernel_rfl) (Wk.boolF (b := (((j : Nat) : Int) == ((n / 2 : Nat) : Int))) (beq_eq_false_iff_ne.2 (by first | exact hx5 | omega)) (by kernel_rfl)) ?_
                  refine Wk.rEnd 5 rfl ?_
                  refine Wk.nxt ?_
                  refine wp_cond_false (by kernel_rfl) ?_
                  refine wp_skip ?_
                  refine Wk.inN ?_
                  refine Wk.nxt ?_
                  refine Wk.reg ?_
                  refine Wk.rPure 0 (some 88) (.int .i64 ((j + 1 : Nat) : Int)) rfl rfl (by kernel_rfl) (Wk.int64 (n := ((j : Nat) : Int) + 1) (z := ((j + 1 : Nat) : Int)) (by omega) (by omega) (by omega) (by kernel_rfl)) ?_
                  refine Wk.rPure 1 (some 38) (.int .i64 ((j + 1 : Nat) : Int)) rfl rfl (by kernel_rfl) (by kernel_rfl) ?_
                  refine Wk.rEnd 2 rfl ?_
                  refine Wk.nxt ?_
                  have hD10 := Mur.SetF.chg hD4 ch9 (fun s hs => trivial)
                  have hdoc4 := (Mur.SlA.chg hdoc1 ch9 (fun g off e hl => trivial))
                  have kk14 := Wk.Chg.step kk10 ch9 trivial
                  refine ⟨_, ?_, j + 1, g, (Mur.addS x L1).1, FF2, DA1, dn1, dc1, rfl, by kernel_rfl, (by omega), (Mur.SetF.low hD10 (by omega)), hdoc4, (by omega), (fun g_ off_ e_ => by have h1_ := hnm2 g_ off_ e_; exact ⟨h1_.1, by omega⟩), (Wk.Chg.hp ch9 (Wk.Chg.hp ch8 (Wk.Chg.hp ch7 hX trivial) (Mur.off_iff.2 (fun t ht => by have := hM1 t ht; omega))) trivial), (Wk.Chg.hp ch9 (Wk.Chg.hp ch8 (Wk.Chg.hp ch7 hHq trivial) (Mur.off_iff.2 (fun t ht => by have := hM1 t ht; omega))) trivial), kk14, hql⟩
                  · omega
              · refine Wk.rPure 16 (some 66) (.bool false) rfl rfl (by kernel_rfl) (Wk.boolF (b := (((Mur.addS x L1).2) == (0 : Int))) (beq_eq_false_iff_ne.2 (by first | exact hx4 | omega)) (by kernel_rfl)) ?_
                refine Wk.rPure 17 (some 67) (.bool false) rfl rfl (by kernel_rfl) (by kernel_rfl) ?_
                refine Wk.rPure 18 (some 68) (.int .i64 ((Mur.addS x L1).2)) rfl rfl (by kernel_rfl) (by kernel_rfl) ?_
                by_cases hx6 : ((Mur.addS x L1).2) = (7 : Int)
                · refine Wk.rPure 19 (some 69) (.bool true) rfl rfl (by kernel_rfl) (Wk.boolT (b := (((Mur.addS x L1).2) == (7 : Int))) (beq_iff_eq.2 (by first | exact hx6 | omega)) (by kernel_rfl)) ?_
                  refine Wk.rPure 20 (some 70) (.bool true) rfl rfl (by kernel_rfl) (by kernel_rfl) ?_
                  refine Wk.rPure 21 (some 71) (.bool false) rfl rfl (by kernel_rfl) (by kernel_rfl) ?_
                  refine Wk.rPure 22 (some 72) (.bool false) rfl rfl (by kernel_rfl) (by kernel_rfl) ?_
                  refine Wk.rEnd 23 rfl ?_
                  refine Wk.nxt ?_
                  refine wp_cond_false (by kernel_rfl) ?_
                  refine wp_skip ?_
                  refine Wk.nxt ?_
                  refine wp_seq ?_
                  refine Wk.reg ?_
                  refine Wk.rPure 0 (some 73) (.slice DA1 dn1 dc1) rfl rfl (by kernel_rfl) (by kernel_rfl) ?_
                  refine Wk.rPure 1 (some 9) (.slice DA1 dn1 dc1) rfl rfl (by kernel_rfl) (by kernel_rfl) ?_
                  refine Wk.rEnd 2 rfl ?_
                  refine Wk.nxt ?_
                  refine wp_seq ?_
                  refine Wk.reg ?_
                  refine Wk.rPure 0 (some 74) (.int .i64 ((j : Nat) : Int)) rfl rfl (by kernel_rfl) (by kernel_rfl) ?_
                  refine Wk.rPure 1 (some 75) (.slice (some ⟨g_x, o_x, none⟩) n c) rfl rfl (by kernel_rfl) (by kernel_rfl) ?_
                  refine Wk.rPure 2 (some 76) (.int .i64 ((n : Nat) : Int)) rfl rfl (by kernel_rfl) (by kernel_rfl) ?_
                  refine Wk.rPure 3 (some 77) (.int .i64 ((n / 2 : Nat) : Int)) rfl rfl (by kernel_rfl) (Mur.quo_nat 3 3 (.tmp 76) (.const (.int .i64 2)) rfl n 2 (by kernel_rfl) (by kernel_rfl) (by omega) (by omega)) ?_
                  by_cases hx7 : ((j : Nat) : Int) = ((n / 2 : Nat) : Int)
                  · refine Wk.rPure 4 (some 78) (.bool true) rfl rfl (by kernel_rfl) (Wk.boolT (b := (((j : Nat) : Int) == ((n / 2 : Nat) : Int))) (beq_iff_eq.2 (by first | exact hx7 | omega)) (by kernel_rfl)) ?_
                    refine Wk.rEnd 5 rfl ?_
                    refine Wk.nxt ?_
                    refine wp_cond_true (by kernel_rfl) ?_
                    refine wp_seq ?_
                    refine Wk.reg ?_
                    refine Wk.rPure 0 (some 79) (.pointer (some ⟨g, 0, none⟩)) rfl rfl (by kernel_rfl) (by kernel_rfl) ?_
                    refine Wk.rCall 1 (some 80) 27 [.tmp 79] #[24] [.pointer (some ⟨g, 0, none⟩)] rfl rfl (by kernel_rfl) rfl (by kernel_rfl) (by kernel_rfl) ?_
                    have hD11 := Mur.SetF.chg hD4 ch9 (fun s hs => trivial)
                    refine (Copy_any W4.heap.size ((Mur.addS x L1).1) g FF2 W11 hD11).mono ?_
                    rintro _ W14 ⟨gc2, FF5, rfl, hD12, ch12⟩
                    have hM5 := Mur.SetF.mem hD12
                    have zz14 := hM5 _ (Mur.SetF.self hD12)
                    have zz15 := ch12.size
                    have jj5 : Mur.Dj FF5 FF2 := fun s h1 h2 => by have := hM5 s h1; have := hM2 s h2; omega
                    have jj6 : Mur.Dj FF2 FF5 := fun s h1 h2 => jj5 s h2 h1
                    have hnm5 : (∀ g_ off_, DA1 = some ⟨g_, off_, none⟩ → g_ ∉ FF5 ∧ g_ < W14.heap.size) := fun g_ off_ e_ => ⟨fun ht_ => by have h1_ := hM5 g_ ht_; have := (hnm2 g_ off_ e_).2; omega, by have := (hnm2 g_ off_ e_).2; omega⟩
                    refine ⟨_, rfl, ?_⟩
                    refine Wk.rPure 2 (some 13) (.pointer (some ⟨gc2, 0, none⟩)) rfl rfl (by kernel_rfl) (by kernel_rfl) ?_
                    refine Wk.rEnd 3 rfl ?_
                    refine Wk.nxt ?_
                    refine wp_seq ?_
                    refine Wk.reg ?_
                    refine Wk.rPure 0 (some 81) (.pointer (some ⟨g, 0, none⟩)) rfl rfl (by kernel_rfl) (by kernel_rfl) ?_
                    refine Wk.rPure 1 (some 82) (.agg ((b8s [9, 9, 9, 0, 0, 0, 0, 0, 0, 0, 0, 0, 0, 0, 0, 0, 0, 0, 0, 0, 0, 0, 0, 0, 0, 0, 0, 0, 0, 0, 0, 0]).toArray)) rfl rfl (by kernel_rfl) (by kernel_rfl) ?_
                    refine Wk.rPure 2 (some 83) (.agg ((Mur.attC ([9, 9, 9, 0, 0, 0, 0, 0, 0, 0, 0, 0, 0, 0, 0, 0, 0, 0, 0, 0, 0, 0, 0, 0, 0, 0, 0, 0, 0, 0, 0, 0]) Mur.z32 4999 Mur.z32).toArray)) rfl rfl (by kernel_rfl) (Mur.run_built 32 _ rfl [(0, .agg ((b8s [9, 9, 9, 0, 0, 0, 0, 0, 0, 0, 0, 0, 0, 0, 0, 0, 0, 0, 0, 0, 0, 0, 0, 0, 0, 0, 0, 0, 0, 0, 0, 0]).toArray)), (2, .int .i64 4999)] (by kernel_rfl) _ (built2 rfl)) ?_
                    refine Wk.rCall 3 (some 84) 15 [.tmp 81, .tmp 83] #[24, 32] [.pointer (some ⟨g, 0, none⟩), .agg ((Mur.attC ([9, 9, 9, 0, 0, 0, 0, 0, 0, 0, 0, 0, 0, 0, 0, 0, 0, 0, 0, 0, 0, 0, 0, 0, 0, 0, 0, 0, 0, 0, 0, 0]) Mur.z32 4999 Mur.z32).toArray)] rfl rfl (by kernel_rfl) rfl (by kernel_rfl) (by kernel_rfl) ?_
                    have hdoc5 := (Mur.SlA.chg (Mur.SlA.chg hdoc1 ch9 (fun g off e hl => trivial)) ch12 (fun g off e hl => trivial))
                    have hD13 := Mur.SetF.chg hD11 ch12 (fun s hs => trivial)
                    refine (Add_any W4.heap.size ((Mur.addS x L1).1) g FF2 Mur.k9A W14 hD13).mono ?_
                    rintro _ W15 ⟨FF6, rfl, hD14, ch13, no3⟩
                    have hM6 := Mur.SetF.mem hD14
                    have zz16 := ch13.size
                    have hD15 := Mur.SetF.chg hD12 ch13 (fun s hs => Mur.Dj.off1 jj6 hs)
                    have jj7 : Mur.Dj FF6 FF5 := fun s hs ht => by
                      rcases Mur.newOr_iff.1 no3 s hs with h1 | h1
                      · exact jj6 s h1 ht
                      · have := hM5 s ht; omega
                    have jj8 : Mur.Dj FF5 FF6 := fun s hs ht => jj7 s ht hs
                    have hdoc6 : SlA W15 DA1 dn1 ((Mur.addS x L1).1) := Mur.SlA.chg hdoc5 ch13 (fun g_ off_ e_ _ => Wk.off_of_not (hnm2 g_ off_ e_).1)
                    have hnm6 : (∀ g_ off_, DA1 = some ⟨g_, off_, none⟩ → g_ ∉ FF6 ∧ g_ < W15.heap.size) := fun g_ off_ e_ => ⟨fun ht_ => (Mur.newOr_iff.1 no3 g_ ht_).elim (hnm2 g_ off_ e_).1 (fun h_ => by have := (hnm2 g_ off_ e_).2; omega), by have := (hnm2 g_ off_ e_).2; omega⟩
                    refine ⟨_, rfl, ?_⟩
                    refine Wk.rEnd 4 rfl ?_
                    refine Wk.nxt ?_
                    refine wp_seq ?_
                    refine wp_seq ?_
                    refine Wk.reg ?_
                    refine Wk.rPure 0 (some 85) (.pointer (some ⟨gc2, 0, none⟩)) rfl rfl (by kernel_rfl) (by kernel_rfl) ?_
                    refine Wk.rPure 1 (some 86) (.bool false) rfl rfl (by kernel_rfl) (by kernel_rfl) ?_
                    refine Wk.rEnd 2 rfl ?_
                    refine Wk.nxt ?_
                    refine wp_cond_false (by kernel_rfl) ?_
                    refine wp_skip ?_
                    refine Wk.nxt ?_
                    refine Wk.reg ?_
                    refine Wk.rPure 0 (some 87) (.pointer (some ⟨gc2, 0, none⟩)) rfl rfl (by kernel_rfl) (by kernel_rfl) ?_
                    refine Wk.rPure 1 (some 8) (.pointer (some ⟨gc2, 0, none⟩)) rfl rfl (by kernel_rfl) (by kernel_rfl) ?_
                    refine Wk.rEnd 2 rfl ?_
                    refine Wk.inN ?_
                    refine Wk.nxt ?_
                    refine Wk.reg ?_
                    refine Wk.rPure 0 (some 88) (.int .i64 ((j + 1 : Nat) : Int)) rfl rfl (by kernel_rfl) (Wk.int64 (n := ((j : Nat) : Int) + 1) (z := ((j + 1 : Nat) : Int)) (by omega) (by omega) (by omega) (by kernel_rfl)) ?_
                    refine Wk.rPure 1 (some 38) (.int .i64 ((j + 1 : Nat) : Int)) rfl rfl (by kernel_rfl) (by kernel_rfl) ?_
                    refine Wk.rEnd 2 rfl ?_
                    refine Wk.nxt ?_
                    have kk15 := Wk.Chg.step kk10 ch9 trivial
                    have kk16 := Wk.Chg.step kk15 ch12 trivial
                    have kk17 := Wk.Chg.step kk16 ch13 (Mur.newOr_iff.2 (fun t ht => .inr (by have := hM2 t ht; omega)))
                    refine ⟨_, ?_, j + 1, gc2, (Mur.addS x L1).1, FF5, DA1, dn1, dc1, rfl, by kernel_rfl, (by omega), (Mur.SetF.low hD15 (by omega)), hdoc6, (by omega), (fun g_ off_ e_ => by have h1_ := hnm5 g_ off_ e_; exact ⟨h1_.1, by omega⟩), (Wk.Chg.hp ch13 (Wk.Chg.hp ch12 (Wk.Chg.hp ch9 (Wk.Chg.hp ch8 (Wk.Chg.hp ch7 hX trivial) (Mur.off_iff.2 (fun t ht => by have := hM1 t ht; omega))) trivial) trivial) (Mur.off_iff.2 (fun t ht => by have := hM2 t ht; omega))), (Wk.Chg.hp ch13 (Wk.Chg.hp ch12 (Wk.Chg.hp ch9 (Wk.Chg.hp ch8 (Wk.Chg.hp ch7 hHq trivial) (Mur.off_iff.2 (fun t ht => by have := hM1 t ht; omega))) trivial) trivial) (Mur.off_iff.2 (fun t ht => by have := hM2 t ht; omega))), kk17, hql⟩
                    · omega
                  · refine Wk.rPure 4 (some 78) (.bool false) rfl rfl (by kernel_rfl) (Wk.boolF (b := (((j : Nat) : Int) == ((n / 2 : Nat) : Int))) (beq_eq_false_iff_ne.2 (by first | exact hx7 | omega)) (by kernel_rfl)) ?_
                    refine Wk.rEnd 5 rfl ?_
                    refine Wk.nxt ?_
                    refine wp_cond_false (by kernel_rfl) ?_
                    refine wp_skip ?_
                    refine Wk.inN ?_
                    refine Wk.nxt ?_
                    refine Wk.reg ?_
                    refine Wk.rPure 0 (some 88) (.int .i64 ((j + 1 : Nat) : Int)) rfl rfl (by kernel_rfl) (Wk.int64 (n := ((j : Nat) : Int) + 1) (z := ((j + 1 : Nat) : Int)) (by omega) (by omega) (by omega) (by kernel_rfl)) ?_
                    refine Wk.rPure 1 (some 38) (.int .i64 ((j + 1 : Nat) : Int)) rfl rfl (by kernel_rfl) (by kernel_rfl) ?_
                    refine Wk.rEnd 2 rfl ?_
                    refine Wk.nxt ?_
                    have hD16 := Mur.SetF.chg hD4 ch9 (fun s hs => trivial)
                    have hdoc7 := (Mur.SlA.chg hdoc1 ch9 (fun g off e hl => trivial))
                    have kk18 := Wk.Chg.step kk10 ch9 trivial
                    refine ⟨_, ?_, j + 1, g, (Mur.addS x L1).1, FF2, DA1, dn1, dc1, rfl, by kernel_rfl, (by omega), (Mur.SetF.low hD16 (by omega)), hdoc7, (by omega), (fun g_ off_ e_ => by have h1_ := hnm2 g_ off_ e_; exact ⟨h1_.1, by omega⟩), (Wk.Chg.hp ch9 (Wk.Chg.hp ch8 (Wk.Chg.hp ch7 hX trivial) (Mur.off_iff.2 (fun t ht => by have := hM1 t ht; omega))) trivial), (Wk.Chg.hp ch9 (Wk.Chg.hp ch8 (Wk.Chg.hp ch7 hHq trivial) (Mur.off_iff.2 (fun t ht => by have := hM1 t ht; omega))) trivial), kk18, hql⟩
                    · omega
                · refine Wk.rPure 19 (some 69) (.bool false) rfl rfl (by kernel_rfl) (Wk.boolF (b := (((Mur.addS x L1).2) == (7 : Int))) (beq_eq_false_iff_ne.2 (by first | exact hx6 | omega)) (by kernel_rfl)) ?_
                  refine Wk.rPure 20 (some 70) (.bool false) rfl rfl (by kernel_rfl) (by kernel_rfl) ?_
                  refine Wk.rPure 21 (some 71) (.bool true) rfl rfl (by kernel_rfl) (by kernel_rfl) ?_
                  refine Wk.rPure 22 (some 72) (.bool true) rfl rfl (by kernel_rfl) (by kernel_rfl) ?_
                  refine Wk.rEnd 23 rfl ?_
                  refine Wk.nxt ?_
                  refine wp_cond_true (by kernel_rfl) ?_
                  refine wp_seq ?_
                  refine Wk.reg ?_
                  refine Wk.rPure 0 (some 6) (.bool false) rfl rfl (by kernel_rfl) (by kernel_rfl) ?_
                  refine Wk.rEnd 1 rfl ?_
                  refine Wk.nxt ?_
                  refine wp_ret ?_
                  refine Wk.thR ?_
                  refine Wk.inR ?_
                  refine Wk.thR ?_
                  refine Wk.thR ?_
                  refine Wk.inR ?_
                  refine Wk.thR ?_
                  exfalso; omega
            · have hcd : ¬ ((Mur.addS x L1).2 = 0 ∨ (Mur.addS x L1).2 = 7) := fun h_ => hmm_ ((Mur.has_code hlen1 hok1).2 h_)
              refine (Has_any W4.heap.size ((Mur.addS x L1).1) g FF2 x W10 hD4).mono ?_
              rw [decide_eq_false hmm_]
              rintro _ W11 ⟨rfl, ch9⟩
              have zz17 := ch9.size
              refine ⟨_, rfl, ?_⟩
              refine Wk.rPure 15 (some 65) (.int .i64 ((Mur.addS x L1).2)) rfl rfl (by kernel_rfl) (by kernel_rfl) ?_
              by_cases hx8 : ((Mur.addS x L1).2) = (0 : Int)
              · refine Wk.rPure 16 (some 66) (.bool true) rfl rfl (by kernel_rfl) (Wk.boolT (b := (((Mur.addS x L1).2) == (0 : Int))) (beq_iff_eq.2 (by first | exact hx8 | omega)) (by kernel_rfl)) ?_
                refine Wk.rPure 17 (some 67) (.bool true) rfl rfl (by kernel_rfl) (by kernel_rfl) ?_
                refine Wk.rPass 18 (some 68) rfl rfl (by kernel_rfl) ?_
                refine Wk.rPass 19 (some 69) rfl rfl (by kernel_rfl) ?_
                refine Wk.rPure 20 (some 70) (.bool true) rfl rfl (by kernel_rfl) (by kernel_rfl) ?_
                refine Wk.rPure 21 (some 71) (.bool true) rfl rfl (by kernel_rfl) (by kernel_rfl) ?_
                refine Wk.rPure 22 (some 72) (.bool true) rfl rfl (by kernel_rfl) (by kernel_rfl) ?_
                refine Wk.rEnd 23 rfl ?_
                refine Wk.nxt ?_
                refine wp_cond_true (by kernel_rfl) ?_
                refine wp_seq ?_
                refine Wk.reg ?_
                refine Wk.rPure 0 (some 6) (.bool false) rfl rfl (by kernel_rfl) (by kernel_rfl) ?_
                refine Wk.rEnd 1 rfl ?_
                refine Wk.nxt ?_
                refine wp_ret ?_
                refine Wk.thR ?_
                refine Wk.inR ?_
                refine Wk.thR ?_
                refine Wk.thR ?_
                refine Wk.inR ?_
                refine Wk.thR ?_
                exfalso; omega
              · refine Wk.rPure 16 (some 66) (.bool false) rfl rfl (by kernel_rfl) (Wk.boolF (b := (((Mur.addS x L1).2) == (0 : Int))) (beq_eq_false_iff_ne.2 (by first | exact hx8 | omega)) (by kernel_rfl)) ?_
                refine Wk.rPure 17 (some 67) (.bool false) rfl rfl (by kernel_rfl) (by kernel_rfl) ?_
                refine Wk.rPure 18 (some 68) (.int .i64 ((Mur.addS x L1).2)) rfl rfl (by kernel_rfl) (by kernel_rfl) ?_
                by_cases hx9 : ((Mur.addS x L1).2) = (7 : Int)
                · refine Wk.rPure 19 (some 69) (.bool true) rfl rfl (by kernel_rfl) (Wk.boolT (b := (((Mur.addS x L1).2) == (7 : Int))) (beq_iff_eq.2 (by first | exact hx9 | omega)) (by kernel_rfl)) ?_
                  refine Wk.rPure 20 (some 70) (.bool true) rfl rfl (by kernel_rfl) (by kernel_rfl) ?_
                  refine Wk.rPure 21 (some 71) (.bool true) rfl rfl (by kernel_rfl) (by kernel_rfl) ?_
                  refine Wk.rPure 22 (some 72) (.bool true) rfl rfl (by kernel_rfl) (by kernel_rfl) ?_
                  refine Wk.rEnd 23 rfl ?_
                  refine Wk.nxt ?_
                  refine wp_cond_true (by kernel_rfl) ?_
                  refine wp_seq ?_
                  refine Wk.reg ?_
                  refine Wk.rPure 0 (some 6) (.bool false) rfl rfl (by kernel_rfl) (by kernel_rfl) ?_
                  refine Wk.rEnd 1 rfl ?_
                  refine Wk.nxt ?_
                  refine wp_ret ?_
                  refine Wk.thR ?_
                  refine Wk.inR ?_
                  refine Wk.thR ?_
                  refine Wk.thR ?_
                  refine Wk.inR ?_
                  refine Wk.thR ?_
                  exfalso; omega
                · refine Wk.rPure 19 (some 69) (.bool false) rfl rfl (by kernel_rfl) (Wk.boolF (b := (((Mur.addS x L1).2) == (7 : Int))) (beq_eq_false_iff_ne.2 (by first | exact hx9 | omega)) (by kernel_rfl)) ?_
                  refine Wk.rPure 20 (some 70) (.bool false) rfl rfl (by kernel_rfl) (by kernel_rfl) ?_
                  refine Wk.rPure 21 (some 71) (.bool false) rfl rfl (by kernel_rfl) (by kernel_rfl) ?_
                  refine Wk.rPure 22 (some 72) (.bool false) rfl rfl (by kernel_rfl) (by kernel_rfl) ?_
                  refine Wk.rEnd 23 rfl ?_
                  refine Wk.nxt ?_
                  refine wp_cond_false (by kernel_rfl) ?_
                  refine wp_skip ?_
                  refine Wk.nxt ?_
                  refine wp_seq ?_
                  refine Wk.reg ?_
                  refine Wk.rPure 0 (some 73) (.slice DA1 dn1 dc1) rfl rfl (by kernel_rfl) (by kernel_rfl) ?_
                  refine Wk.rPure 1 (some 9) (.slice DA1 dn1 dc1) rfl rfl (by kernel_rfl) (by kernel_rfl) ?_
                  refine Wk.rEnd 2 rfl ?_
                  refine Wk.nxt ?_
                  refine wp_seq ?_
                  refine Wk.reg ?_
                  refine Wk.rPure 0 (some 74) (.int .i64 ((j : Nat) : Int)) rfl rfl (by kernel_rfl) (by kernel_rfl) ?_
                  refine Wk.rPure 1 (some 75) (.slice (some ⟨g_x, o_x, none⟩) n c) rfl rfl (by kernel_rfl) (by kernel_rfl) ?_
                  refine Wk.rPure 2 (some 76) (.int .i64 ((n : Nat) : Int)) rfl rfl (by kernel_rfl) (by kernel_rfl) ?_
                  refine Wk.rPure 3 (some 77) (.int .i64 ((n / 2 : Nat) : Int)) rfl rfl (by kernel_rfl) (Mur.quo_nat 3 3 (.tmp 76) (.const (.int .i64 2)) rfl n 2 (by kernel_rfl) (by kernel_rfl) (by omega) (by omega)) ?_
                  by_cases hx10 : ((j : Nat) : Int) = ((n / 2 : Nat) : Int)
                  · refine Wk.rPure 4 (some 78) (.bool true) rfl rfl (by kernel_rfl) (Wk.boolT (b := (((j : Nat) : Int) == ((n / 2 : Nat) : Int))) (beq_iff_eq.2 (by first | exact hx10 | omega)) (by kernel_rfl)) ?_
                    refine Wk.rEnd 5 rfl ?_
                    refine Wk.nxt ?_
                    refine wp_cond_true (by kernel_rfl) ?_
                    refine wp_seq ?_
                    refine Wk.reg ?_
                    refine Wk.rPure 0 (some 79) (.pointer (some ⟨g, 0, none⟩)) rfl rfl (by kernel_rfl) (by kernel_rfl) ?_
                    refine Wk.rCall 1 (some 80) 27 [.tmp 79] #[24] [.pointer (some ⟨g, 0, none⟩)] rfl rfl (by kernel_rfl) rfl (by kernel_rfl) (by kernel_rfl) ?_
                    have hD17 := Mur.SetF.chg hD4 ch9 (fun s hs => trivial)
                    refine (Copy_any W4.heap.size ((Mur.addS x L1).1) g FF2 W11 hD17).mono ?_
                    rintro _ W16 ⟨gc3, FF7, rfl, hD18, ch14⟩
                    have hM7 := Mur.SetF.mem hD18
                    have zz18 := hM7 _ (Mur.SetF.self hD18)
                    have zz19 := ch14.size
                    have jj9 : Mur.Dj FF7 FF2 := fun s h1 h2 => by have := hM7 s h1; have := hM2 s h2; omega
                    have jj10 : Mur.Dj FF2 FF7 := fun s h1 h2 => jj9 s h2 h1
                    have hnm7 : (∀ g_ off_, DA1 = some ⟨g_, off_, none⟩ → g_ ∉ FF7 ∧ g_ < W16.heap.size) := fun g_ off_ e_ => ⟨fun ht_ => by have h1_ := hM7 g_ ht_; have := (hnm2 g_ off_ e_).2; omega, by have := (hnm2 g_ off_ e_).2; omega⟩
                    refine ⟨_, rfl, ?_⟩
                    refine Wk.rPure 2 (some 13) (.pointer (some ⟨gc3, 0, none⟩)) rfl rfl (by kernel_rfl) (by kernel_rfl) ?_
                    refine Wk.rEnd 3 rfl ?_
                    refine Wk.nxt ?_
                    refine wp_seq ?_
                    refine Wk.reg ?_
                    refine Wk.rPure 0 (some 81) (.pointer (some ⟨g, 0, none⟩)) rfl rfl (by kernel_rfl) (by kernel_rfl) ?_
                    refine Wk.rPure 1 (some 82) (.agg ((b8s [9, 9, 9, 0, 0, 0, 0, 0, 0, 0, 0, 0, 0, 0, 0, 0, 0, 0, 0, 0, 0, 0, 0, 0, 0, 0, 0, 0, 0, 0, 0, 0]).toArray)) rfl rfl (by kernel_rfl) (by kernel_rfl) ?_
                    refine Wk.rPure 2 (some 83) (.agg ((Mur.attC ([9, 9, 9, 0, 0, 0, 0, 0, 0, 0, 0, 0, 0, 0, 0, 0, 0, 0, 0, 0, 0, 0, 0, 0, 0, 0, 0, 0, 0, 0, 0, 0]) Mur.z32 4999 Mur.z32).toArray)) rfl rfl (by kernel_rfl) (Mur.run_built 32 _ rfl [(0, .agg ((b8s [9, 9, 9, 0, 0, 0, 0, 0, 0, 0, 0, 0, 0, 0, 0, 0, 0, 0, 0, 0, 0, 0, 0, 0, 0, 0, 0, 0, 0, 0, 0, 0]).toArray)), (2, .int .i64 4999)] (by kernel_rfl) _ (built2 rfl)) ?_
                    refine Wk.rCall 3 (some 84) 15 [.tmp 81, .tmp 83] #[24, 32] [.pointer (some ⟨g, 0, none⟩), .agg ((Mur.attC ([9, 9, 9, 0, 0, 0, 0, 0, 0, 0, 0, 0, 0, 0, 0, 0, 0, 0, 0, 0, 0, 0, 0, 0, 0, 0, 0, 0, 0, 0, 0, 0]) Mur.z32 4999 Mur.z32).toArray)] rfl rfl (by kernel_rfl) rfl (by kernel_rfl) (by kernel_rfl) ?_
                    have hdoc8 := (Mur.SlA.chg (Mur.SlA.chg hdoc1 ch9 (fun g off e hl => trivial)) ch14 (fun g off e hl => trivial))
                    have hD19 := Mur.SetF.chg hD17 ch14 (fun s hs => trivial)
                    refine (Add_any W4.heap.size ((Mur.addS x L1).1) g FF2 Mur.k9A W16 hD19).mono ?_
                    rintro _ W17 ⟨FF8, rfl, hD20, ch15, no4⟩
                    have hM8 := Mur.SetF.mem hD20
                    have zz20 := ch15.size
                    have hD21 := Mur.SetF.chg hD18 ch15 (fun s hs => Mur.Dj.off1 jj10 hs)
                    have jj11 : Mur.Dj FF8 FF7 := fun s hs ht => by
                      rcases Mur.newOr_iff.1 no4 s hs with h1 | h1
                      · exact jj10 s h1 ht
                      · have := hM7 s ht; omega
                    have jj12 : Mur.Dj FF7 FF8 := fun s hs ht => jj11 s ht hs
                    have hdoc9 : SlA W17 DA1 dn1 ((Mur.addS x L1).1) := Mur.SlA.chg hdoc8 ch15 (fun g_ off_ e_ _ => Wk.off_of_not (hnm2 g_ off_ e_).1)
                    have hnm8 : (∀ g_ off_, DA1 = some ⟨g_, off_, none⟩ → g_ ∉ FF8 ∧ g_ < W17.heap.size) := fun g_ off_ e_ => ⟨fun ht_ => (Mur.newOr_iff.1 no4 g_ ht_).elim (hnm2 g_ off_ e_).1 (fun h_ => by have := (hnm2 g_ off_ e_).2; omega), by have := (hnm2 g_ off_ e_).2; omega⟩
                    refine ⟨_, rfl, ?_⟩
                    refine Wk.rEnd 4 rfl ?_
                    refine Wk.nxt ?_
                    refine wp_seq ?_
                    refine wp_seq ?_
                    refine Wk.reg ?_
                    refine Wk.rPure 0 (some 85) (.pointer (some ⟨gc3, 0, none⟩)) rfl rfl (by kernel_rfl) (by kernel_rfl) ?_
                    refine Wk.rPure 1 (some 86) (.bool false) rfl rfl (by kernel_rfl) (by kernel_rfl) ?_
                    refine Wk.rEnd 2 rfl ?_
                    refine Wk.nxt ?_
                    refine wp_cond_false (by kernel_rfl) ?_
                    refine wp_skip ?_
                    refine Wk.nxt ?_
                    refine Wk.reg ?_
                    refine Wk.rPure 0 (some 87) (.pointer (some ⟨gc3, 0, none⟩)) rfl rfl (by kernel_rfl) (by kernel_rfl) ?_
                    refine Wk.rPure 1 (some 8) (.pointer (some ⟨gc3, 0, none⟩)) rfl rfl (by kernel_rfl) (by kernel_rfl) ?_
                    refine Wk.rEnd 2 rfl ?_
                    refine Wk.inN ?_
                    refine Wk.nxt ?_
                    refine Wk.reg ?_
                    refine Wk.rPure 0 (some 88) (.int .i64 ((j + 1 : Nat) : Int)) rfl rfl (by kernel_rfl) (Wk.int64 (n := ((j : Nat) : Int) + 1) (z := ((j + 1 : Nat) : Int)) (by omega) (by omega) (by omega) (by kernel_rfl)) ?_
                    refine Wk.rPure 1 (some 38) (.int .i64 ((j + 1 : Nat) : Int)) rfl rfl (by kernel_rfl) (by kernel_rfl) ?_
                    refine Wk.rEnd 2 rfl ?_
                    refine Wk.nxt ?_
                    have kk19 := Wk.Chg.step kk10 ch9 trivial
                    have kk20 := Wk.Chg.step kk19 ch14 trivial
                    have kk21 := Wk.Chg.step kk20 ch15 (Mur.newOr_iff.2 (fun t ht => .inr (by have := hM2 t ht; omega)))
                    refine ⟨_, ?_, j + 1, gc3, (Mur.addS x L1).1, FF7, DA1, dn1, dc1, rfl, by kernel_rfl, (by omega), (Mur.SetF.low hD21 (by omega)), hdoc9, (by omega), (fun g_ off_ e_ => by have h1_ := hnm7 g_ off_ e_; exact ⟨h1_.1, by omega⟩), (Wk.Chg.hp ch15 (Wk.Chg.hp ch14 (Wk.Chg.hp ch9 (Wk.Chg.hp ch8 (Wk.Chg.hp ch7 hX trivial) (Mur.off_iff.2 (fun t ht => by have := hM1 t ht; omega))) trivial) trivial) (Mur.off_iff.2 (fun t ht => by have := hM2 t ht; omega))), (Wk.Chg.hp ch15 (Wk.Chg.hp ch14 (Wk.Chg.hp ch9 (Wk.Chg.hp ch8 (Wk.Chg.hp ch7 hHq trivial) (Mur.off_iff.2 (fun t ht => by have := hM1 t ht; omega))) trivial) trivial) (Mur.off_iff.2 (fun t ht => by have := hM2 t ht; omega))), kk21, hql⟩
                    · omega
                  · refine Wk.rPure 4 (some 78) (.bool false) rfl rfl (by kernel_rfl) (Wk.boolF (b := (((j : Nat) : Int) == ((n / 2 : Nat) : Int))) (beq_eq_false_iff_ne.2 (by first | exact hx10 | omega)) (by kernel_rfl)) ?_
                    refine Wk.rEnd 5 rfl ?_
                    refine Wk.nxt ?_
                    refine wp_cond_false (by kernel_rfl) ?_
                    refine wp_skip ?_
                    refine Wk.inN ?_
                    refine Wk.nxt ?_
                    refine Wk.reg ?_
                    refine Wk.rPure 0 (some 88) (.int .i64 ((j + 1 : Nat) : Int)) rfl rfl (by kernel_rfl) (Wk.int64 (n := ((j : Nat) : Int) + 1) (z := ((j + 1 : Nat) : Int)) (by omega) (by omega) (by omega) (by kernel_rfl)) ?_
                    refine Wk.rPure 1 (some 38) (.int .i64 ((j + 1 : Nat) : Int)) rfl rfl (by kernel_rfl) (by kernel_rfl) ?_
                    refine Wk.rEnd 2 rfl ?_
                    refine Wk.nxt ?_
                    have hD22 := Mur.SetF.chg hD4 ch9 (fun s hs => trivial)
                    have hdoc10 := (Mur.SlA.chg hdoc1 ch9 (fun g off e hl => trivial))
                    have kk22 := Wk.Chg.step kk10 ch9 trivial
                    refine ⟨_, ?_, j + 1, g, (Mur.addS x L1).1, FF2, DA1, dn1, dc1, rfl, by kernel_rfl, (by omega), (Mur.SetF.low hD22 (by omega)), hdoc10, (by omega), (fun g_ off_ e_ => by have h1_ := hnm2 g_ off_ e_; exact ⟨h1_.1, by omega⟩), (Wk.Chg.hp ch9 (Wk.Chg.hp ch8 (Wk.Chg.hp ch7 hX trivial) (Mur.off_iff.2 (fun t ht => by have := hM1 t ht; omega))) trivial), (Wk.Chg.hp ch9 (Wk.Chg.hp ch8 (Wk.Chg.hp ch7 hHq trivial) (Mur.off_iff.2 (fun t ht => by have := hM1 t ht; omega))) trivial), kk22, hql⟩
                    · omega
        · refine wp_seq ?_
          refine Wk.reg ?_
          refine Wk.rPure 0 (some 39) (.bool false) rfl rfl (by kernel_rfl) (Wk.boolF (b := decide (((j : Nat) : Int) < ((n : Nat) : Int))) (decide_eq_false (by omega)) (by kernel_rfl)) ?_
          refine Wk.rEnd 1 rfl ?_
          refine Wk.nxt ?_
          refine wp_seq ?_
          refine wp_cond_false (by kernel_rfl) ?_
          refine wp_exit ?_
          refine Wk.thX ?_
          refine Wk.thX ?_
          refine Wk.inX ?_
          refine Wk.nxt ?_
          refine wp_seq ?_
          refine Wk.reg ?_
          refine Wk.rPure 0 (some 89) (.pointer (some ⟨g, 0, none⟩)) rfl rfl (by kernel_rfl) (by kernel_rfl) ?_
          refine Wk.rPure 1 (some 90) (.slice PA pn pc) rfl rfl (by kernel_rfl) (by kernel_rfl) ?_
          refine Wk.rCall 2 (some 91) 18 [.tmp 89, .tmp 90] #[24, 38] [.pointer (some ⟨g, 0, none⟩), .slice PA pn pc] rfl rfl (by kernel_rfl) rfl (by kernel_rfl) (by kernel_rfl) ?_
          refine (Below_any W4.heap.size L1 g F1 p PA pn pc W7 hD1 (Mur.byt_chg hb HB (fun g off e hl => trivial)) (by omega)).mono ?_
          rintro _ W18 ⟨AA1, nn1, nn2, rfl, ow1, ch16⟩
          have zz21 := ch16.size
          have hq1 := ow1.nc
          have hq2 := ow1.cm
          have hq3 := ow1.sl.len
          have hq4 : (Mur.belowL p L1).length ≤ 200 := Nat.le_trans (Mur.belowL_len _ _) (Mur.SetF.len hD1)
          refine ⟨_, rfl, ?_⟩
          refine Wk.rPure 3 (some 14) (.slice AA1 nn1 nn2) rfl rfl (by kernel_rfl) (by kernel_rfl) ?_
          refine Wk.rEnd 4 rfl ?_
          refine Wk.nxt ?_
          refine wp_seq ?_
          refine Wk.reg ?_
          refine Wk.rPure 0 (some 93) (.pointer (some ⟨g, 0, none⟩)) rfl rfl (by kernel_rfl) (by kernel_rfl) ?_
          refine Wk.rPure 1 (some 94) (.slice PA pn pc) rfl rfl (by kernel_rfl) (by kernel_rfl) ?_
          refine Wk.rCall 2 (some 95) 16 [.tmp 93, .tmp 94] #[24, 38] [.pointer (some ⟨g, 0, none⟩), .slice PA pn pc] rfl rfl (by kernel_rfl) rfl (by kernel_rfl) (by kernel_rfl) ?_
          have kk23 := Wk.Chg.step HB ch16 trivial
          have hD23 := Mur.SetF.chg hD1 ch16 (fun s hs => trivial)
          refine (Sum_any W4.heap.size L1 g F1 p PA pn pc W18 (HV.out.below (Wk.Chg.below0 kk23)) hD23 (Mur.byt_chg hb kk23 (fun g off e hl => trivial)) (by omega)).mono ?_
          rintro _ W19 ⟨dd1, hd1, hdl1, rfl, ch17⟩
          have zz22 := ch17.size
          refine ⟨_, rfl, ?_⟩
          refine Wk.rPure 3 (some 92) (.tuple #[.agg ((b8s dd1).toArray), .int .i64 (((Mur.belowL p L1).length : Nat) : Int)]) rfl rfl (by kernel_rfl) (by kernel_rfl) ?_
          refine Wk.rPure 4 (some 96) (.agg ((b8s dd1).toArray)) rfl rfl (by kernel_rfl) (by kernel_rfl) ?_
          refine Wk.rPure 5 (some 97) (.int .i64 (((Mur.belowL p L1).length : Nat) : Int)) rfl rfl (by kernel_rfl) (by kernel_rfl) ?_
          refine Wk.rEx 6 (some 15) _ rfl rfl (by kernel_rfl) (Wk.new_ex (.pointer (some ⟨W19.heap.size, 0, none⟩)) #[.int .u8 0, .int .u8 0, .int .u8 0, .int .u8 0, .int .u8 0, .int .u8 0, .int .u8 0, .int .u8 0, .int .u8 0, .int .u8 0, .int .u8 0, .int .u8 0, .int .u8 0, .int .u8 0, .int .u8 0, .int .u8 0, .int .u8 0, .int .u8 0, .int .u8 0, .int .u8 0, .int .u8 0, .int .u8 0, .int .u8 0, .int .u8 0, .int .u8 0, .int .u8 0, .int .u8 0, .int .u8 0, .int .u8 0, .int .u8 0, .int .u8 0, .int .u8 0] 30 (by kernel_rfl)) ?_
          rintro _ W20 ⟨rfl, hb3, ch18, sz3⟩
          have zz23 := ch18.size
          refine Wk.rExS 7 none _ rfl rfl (by kernel_rfl) (Mur.storeAll 30 (.tmp 15) (.tmp 96) rfl W19.heap.size (by kernel_rfl) dd1 32 hdl1 (by kernel_rfl) (by kernel_rfl) 30 #[.int .u8 0, .int .u8 0, .int .u8 0, .int .u8 0, .int .u8 0, .int .u8 0, .int .u8 0, .int .u8 0, .int .u8 0, .int .u8 0, .int .u8 0, .int .u8 0, .int .u8 0, .int .u8 0, .int .u8 0, .int .u8 0, .int .u8 0, .int .u8 0, .int .u8 0, .int .u8 0, .int .u8 0, .int .u8 0, .int .u8 0, .int .u8 0, .int .u8 0, .int .u8 0, .int .u8 0, .int .u8 0, .int .u8 0, .int .u8 0, .int .u8 0, .int .u8 0] hb3 rfl) ?_
          rintro W21 ⟨hb4, ch19⟩
          have zz24 := ch19.size
          refine Wk.rPure 8 (some 16) (.int .i64 (((Mur.belowL p L1).length : Nat) : Int)) rfl rfl (by kernel_rfl) (by kernel_rfl) ?_
          refine Wk.rEnd 9 rfl ?_
          refine Wk.nxt ?_
          refine wp_seq ?_
          refine Wk.reg ?_
          refine Wk.rPure 0 (some 99) (.slice DA dn dc) rfl rfl (by kernel_rfl) (by kernel_rfl) ?_
          refine Wk.rPure 1 (some 100) (.pointer (some ⟨qh1, 0, none⟩)) rfl rfl (by kernel_rfl) (by kernel_rfl) ?_
          refine Wk.rPure 2 (some 101) (.slice PA pn pc) rfl rfl (by kernel_rfl) (by kernel_rfl) ?_
          refine Wk.rCall 3 (some 102) 28 [.tmp 99, .tmp 100, .tmp 101] #[50, 41, 38] [.slice DA dn dc, .pointer (some ⟨qh1, 0, none⟩), .slice PA pn pc] rfl rfl (by kernel_rfl) rfl (by kernel_rfl) (by kernel_rfl) ?_
          have kk24 := Wk.Chg.step kk23 ch17 trivial
          have kk25 := Wk.Chg.step kk24 ch18 trivial
          have kk26 := Wk.Chg.step kk25 ch19 ⟨.inr (by omega), trivial⟩
          refine (Rsum20_any hc kc Hh Hk qh1 DA dn dc L1 p PA pn pc W21 (Wk.Chg.hp ch19 (Wk.Chg.hp ch18 (Wk.Chg.hp ch17 (Wk.Chg.hp ch16 hHq trivial) trivial) trivial) ⟨by omega, trivial⟩) (Mur.SlA.chg (Mur.SlA.chg (Mur.SlA.chg (Mur.SlA.chg hdoc ch16 (fun g off e hl => trivial)) ch17 (fun g off e hl => trivial)) ch18 (fun g off e hl => trivial)) ch19 (fun g off e hl => ⟨by have := hnm g off e; omega, trivial⟩)) (Mur.byt_chg hb kk26 (fun g off e hl => trivial)) (by omega) (by omega)).mono ?_
          rintro _ W22 ⟨dd2, hd2, hdl2, rfl, ch20⟩
          have zz25 := ch20.size
          refine ⟨_, rfl, ?_⟩
          refine Wk.rPure 4 (some 98) (.tuple #[.agg ((b8s dd2).toArray), .int .i64 (((Mur.belowL p L1).length : Nat) : Int)]) rfl rfl (by kernel_rfl) (by kernel_rfl) ?_
          refine Wk.rPure 5 (some 103) (.agg ((b8s dd2).toArray)) rfl rfl (by kernel_rfl) (by kernel_rfl) ?_
          refine Wk.rPure 6 (some 104) (.int .i64 (((Mur.belowL p L1).length : Nat) : Int)) rfl rfl (by kernel_rfl) (by kernel_rfl) ?_
          refine Wk.rEx 7 (some 17) _ rfl rfl (by kernel_rfl) (Wk.new_ex (.pointer (some ⟨W22.heap.size, 0, none⟩)) #[.int .u8 0, .int .u8 0, .int .u8 0, .int .u8 0, .int .u8 0, .int .u8 0, .int .u8 0, .int .u8 0, .int .u8 0, .int .u8 0, .int .u8 0, .int .u8 0, .int .u8 0, .int .u8 0, .int .u8 0, .int .u8 0, .int .u8 0, .int .u8 0, .int .u8 0, .int .u8 0, .int .u8 0, .int .u8 0, .int .u8 0, .int .u8 0, .int .u8 0, .int .u8 0, .int .u8 0, .int .u8 0, .int .u8 0, .int .u8 0, .int .u8 0, .int .u8 0] 30 (by kernel_rfl)) ?_
          rintro _ W23 ⟨rfl, hb5, ch21, sz4⟩
          have zz26 := ch21.size
          refine Wk.rExS 8 none _ rfl rfl (by kernel_rfl) (Mur.storeAll 30 (.tmp 17) (.tmp 103) rfl W22.heap.size (by kernel_rfl) dd2 32 hdl2 (by kernel_rfl) (by kernel_rfl) 30 #[.int .u8 0, .int .u8 0, .int .u8 0, .int .u8 0, .int .u8 0, .int .u8 0, .int .u8 0, .int .u8 0, .int .u8 0, .int .u8 0, .int .u8 0, .int .u8 0, .int .u8 0, .int .u8 0, .int .u8 0, .int .u8 0, .int .u8 0, .int .u8 0, .int .u8 0, .int .u8 0, .int .u8 0, .int .u8 0, .int .u8 0, .int .u8 0, .int .u8 0, .int .u8 0, .int .u8 0, .int .u8 0, .int .u8 0, .int .u8 0, .int .u8 0, .int .u8 0] hb5 rfl) ?_
          rintro W24 ⟨hb6, ch22⟩
          have zz27 := ch22.size
          refine Wk.rPure 9 (some 18) (.int .i64 (((Mur.belowL p L1).length : Nat) : Int)) rfl rfl (by kernel_rfl) (by kernel_rfl) ?_
          refine Wk.rEnd 10 rfl ?_
          refine Wk.nxt ?_
          refine wp_seq ?_
          refine wp_seq ?_
          refine Wk.reg ?_
          refine Wk.rPure 0 (some 105) (.pointer (some ⟨g, 0, none⟩)) rfl rfl (by kernel_rfl) (by kernel_rfl) ?_
          refine Wk.rCall 1 (some 106) 23 [.tmp 105] #[24] [.pointer (some ⟨g, 0, none⟩)] rfl rfl (by kernel_rfl) rfl (by kernel_rfl) (by kernel_rfl) ?_
          have hD24 := Mur.SetF.chg hD23 ch17 (fun s hs => trivial)
          have hD25 := Mur.SetF.chg hD24 ch18 (fun s hs => trivial)
          have hD26 := Mur.SetF.chg hD25 ch19 (fun s hs => ⟨by have := hM1 s hs; omega, trivial⟩)
          have hD27 := Mur.SetF.chg hD26 ch20 (fun s hs => trivial)
          have hD28 := Mur.SetF.chg hD27 ch21 (fun s hs => trivial)
          have hD29 := Mur.SetF.chg hD28 ch22 (fun s hs => ⟨by have := hM1 s hs; omega, trivial⟩)
          refine (Len_any W4.heap.size L1 g F1 W24 hD29).mono ?_
          rintro _ _ ⟨rfl, rfl⟩
          refine ⟨_, rfl, ?_⟩
          refine Wk.rPure 2 (some 107) (.slice DA dn dc) rfl rfl (by kernel_rfl) (by kernel_rfl) ?_
          refine Wk.rPure 3 (some 108) (.int .i64 ((dn : Nat) : Int)) rfl rfl (by kernel_rfl) (by kernel_rfl) ?_
          by_cases hx11 : ((L1.length : Nat) : Int) ≠ ((dn : Nat) : Int)
          · refine Wk.rPure 4 (some 109) (.bool true) rfl rfl (by kernel_rfl) (Wk.boolT (b := (((L1.length : Nat) : Int) != ((dn : Nat) : Int))) (bne_iff_ne.2 (by first | exact hx11 | omega)) (by kernel_rfl)) ?_
            refine Wk.rPure 5 (some 110) (.bool true) rfl rfl (by kernel_rfl) (by kernel_rfl) ?_
            refine Wk.rPass 6 (some 111) rfl rfl (by kernel_rfl) ?_
            refine Wk.rPass 7 (some 112) rfl rfl (by kernel_rfl) ?_
            refine Wk.rPass 8 (some 113) rfl rfl (by kernel_rfl) ?_
            refine Wk.rPass 9 (some 114) rfl rfl (by kernel_rfl) ?_
            refine Wk.rPass 10 (some 115) rfl rfl (by kernel_rfl) ?_
            refine Wk.rPure 11 (some 116) (.bool true) rfl rfl (by kernel_rfl) (by kernel_rfl) ?_
            refine Wk.rPure 12 (some 117) (.bool true) rfl rfl (by kernel_rfl) (by kernel_rfl) ?_
            refine Wk.rPass 13 (some 118) rfl rfl (by kernel_rfl) ?_
            refine Wk.rPass 14 (some 119) rfl rfl (by kernel_rfl) ?_
            refine Wk.rPass 15 (some 120) rfl rfl (by kernel_rfl) ?_
            refine Wk.rPass 16 (some 121) rfl rfl (by kernel_rfl) ?_
            refine Wk.rPass 17 (some 122) rfl rfl (by kernel_rfl) ?_
            refine Wk.rPass 18 (some 123) rfl rfl (by kernel_rfl) ?_
            refine Wk.rPure 19 (some 124) (.bool true) rfl rfl (by kernel_rfl) (by kernel_rfl) ?_
            refine Wk.rPure 20 (some 125) (.bool true) rfl rfl (by kernel_rfl) (by kernel_rfl) ?_
            refine Wk.rPass 21 (some 126) rfl rfl (by kernel_rfl) ?_
            refine Wk.rPass 22 (some 127) rfl rfl (by kernel_rfl) ?_
            refine Wk.rPass 23 (some 128) rfl rfl (by kernel_rfl) ?_
            refine Wk.rPure 24 (some 129) (.bool true) rfl rfl (by kernel_rfl) (by kernel_rfl) ?_
            refine Wk.rPure 25 (some 130) (.bool true) rfl rfl (by kernel_rfl) (by kernel_rfl) ?_
            refine Wk.rPass 26 (some 131) rfl rfl (by kernel_rfl) ?_
            refine Wk.rPass 27 (some 132) rfl rfl (by kernel_rfl) ?_
            refine Wk.rPass 28 (some 133) rfl rfl (by kernel_rfl) ?_
            refine Wk.rPure 29 (some 134) (.bool true) rfl rfl (by kernel_rfl) (by kernel_rfl) ?_
            refine Wk.rPure 30 (some 135) (.bool true) rfl rfl (by kernel_rfl) (by kernel_rfl) ?_
            refine Wk.rPass 31 (some 136) rfl rfl (by kernel_rfl) ?_
            refine Wk.rPass 32 (some 137) rfl rfl (by kernel_rfl) ?_
            refine Wk.rPass 33 (some 138) rfl rfl (by kernel_rfl) ?_
            refine Wk.rPass 34 (some 139) rfl rfl (by kernel_rfl) ?_
            refine Wk.rPass 35 (some 140) rfl rfl (by kernel_rfl) ?_
            refine Wk.rPure 36 (some 141) (.bool true) rfl rfl (by kernel_rfl) (by kernel_rfl) ?_
            refine Wk.rEnd 37 rfl ?_
            refine Wk.nxt ?_
            refine wp_cond_true (by kernel_rfl) ?_
            refine wp_seq ?_
            refine Wk.reg ?_
            refine Wk.rPure 0 (some 6) (.bool false) rfl rfl (by kernel_rfl) (by kernel_rfl) ?_
            refine Wk.rEnd 1 rfl ?_
            refine Wk.nxt ?_
            refine wp_ret ?_
            refine Wk.thR ?_
            exfalso; omega
          · refine Wk.rPure 4 (some 109) (.bool false) rfl rfl (by kernel_rfl) (Wk.boolF (b := (((L1.length : Nat) : Int) != ((dn : Nat) : Int))) (bne_eq_false_iff_eq.2 (by first | exact hx11 | omega)) (by kernel_rfl)) ?_
            refine Wk.rPure 5 (some 110) (.bool false) rfl rfl (by kernel_rfl) (by kernel_rfl) ?_
            refine Wk.rPure 6 (some 111) (.pointer (some ⟨g, 0, none⟩)) rfl rfl (by kernel_rfl) (by kernel_rfl) ?_
            refine Wk.rCall 7 (some 112) 18 [.tmp 111, .const (.slice none 0 0)] #[24, 38] [.pointer (some ⟨g, 0, none⟩), .slice none 0 0] rfl rfl (by kernel_rfl) rfl (by kernel_rfl) (by kernel_rfl) ?_
            refine (Below_any W4.heap.size L1 g F1 ([]) none 0 0 W24 hD29 (Byt.nil _ none) (by omega)).mono ?_
            rw [Mur.belowL_nil]
            rintro _ W25 ⟨AA2, nn3, nn4, rfl, ow2, ch23⟩
            have zz28 := ch23.size
            have hq5 := ow2.nc
            have hq6 := ow2.cm
            have hq7 := ow2.sl.len
            have hq8 : L1.length ≤ 200 := Nat.le_trans (Nat.le_refl _) (Mur.SetF.len hD29)
            refine ⟨_, rfl, ?_⟩
            refine Wk.rPure 8 (some 113) (.slice DA dn dc) rfl rfl (by kernel_rfl) (by kernel_rfl) ?_
            refine Wk.rCall 9 (some 114) 17 [.tmp 112, .tmp 113] #[22, 22] [.slice AA2 nn3 nn4, .slice DA dn dc] rfl rfl (by kernel_rfl) rfl (by kernel_rfl) (by kernel_rfl) ?_
            refine (Same20_any AA2 nn3 nn4 L1 DA dn dc L1 W25 ow2.sl (Mur.SlA.chg (Mur.SlA.chg (Mur.SlA.chg (Mur.SlA.chg (Mur.SlA.chg (Mur.SlA.chg (Mur.SlA.chg (Mur.SlA.chg hdoc ch16 (fun g off e hl => trivial)) ch17 (fun g off e hl => trivial)) ch18 (fun g off e hl => trivial)) ch19 (fun g off e hl => ⟨by have := hnm g off e; omega, trivial⟩)) ch20 (fun g off e hl => trivial)) ch21 (fun g off e hl => trivial)) ch22 (fun g off e hl => ⟨by have := hnm g off e; omega, trivial⟩)) ch23 (fun g off e hl => trivial)) (by omega)).mono ?_
            rw [decide_eq_true (rfl : L1 = L1)]
            rintro _ W26 ⟨rfl, ch24⟩
            have zz29 := ch24.size
            refine ⟨_, rfl, ?_⟩
            refine Wk.rPure 10 (some 115) (.bool false) rfl rfl (by kernel_rfl) (by kernel_rfl) ?_
            refine Wk.rPure 11 (some 116) (.bool false) rfl rfl (by kernel_rfl) (by kernel_rfl) ?_
            refine Wk.rPure 12 (some 117) (.bool false) rfl rfl (by kernel_rfl) (by kernel_rfl) ?_
            refine Wk.rPure 13 (some 118) (.slice AA1 nn1 nn2) rfl rfl (by kernel_rfl) (by kernel_rfl) ?_
            refine Wk.rPure 14 (some 119) (.slice DA dn dc) rfl rfl (by kernel_rfl) (by kernel_rfl) ?_
            refine Wk.rPure 15 (some 120) (.slice PA pn pc) rfl rfl (by kernel_rfl) (by kernel_rfl) ?_
            refine Wk.rCall 16 (some 121) 29 [.tmp 119, .tmp 120] #[50, 38] [.slice DA dn dc, .slice PA pn pc] rfl rfl (by kernel_rfl) rfl (by kernel_rfl) (by kernel_rfl) ?_
            have kk27 := Wk.Chg.step kk26 ch20 trivial
            have kk28 := Wk.Chg.step kk27 ch21 trivial
            have kk29 := Wk.Chg.step kk28 ch22 ⟨.inr (by omega), trivial⟩
            have kk30 := Wk.Chg.step kk29 ch23 trivial
            have kk31 := Wk.Chg.step kk30 ch24 trivial
            refine (Rbelow_any DA dn dc L1 p PA pn pc W26 (Mur.SlA.chg (Mur.SlA.chg (Mur.SlA.chg (Mur.SlA.chg (Mur.SlA.chg (Mur.SlA.chg (Mur.SlA.chg (Mur.SlA.chg (Mur.SlA.chg hdoc ch16 (fun g off e hl => trivial)) ch17 (fun g off e hl => trivial)) ch18 (fun g off e hl => trivial)) ch19 (fun g off e hl => ⟨by have := hnm g off e; omega, trivial⟩)) ch20 (fun g off e hl => trivial)) ch21 (fun g off e hl => trivial)) ch22 (fun g off e hl => ⟨by have := hnm g off e; omega, trivial⟩)) ch23 (fun g off e hl => trivial)) ch24 (fun g off e hl => trivial)) (Mur.byt_chg hb kk31 (fun g off e hl => trivial)) (by omega) (by omega)).mono ?_
            rintro _ W27 ⟨AA3, nn5, nn6, rfl, ow3, ch25⟩
            have zz30 := ch25.size
            have hq9 := ow3.nc
            have hq10 := ow3.cm
            have hq11 := ow3.sl.len
            have hq12 := Mur.belowL_len p L1
            refine ⟨_, rfl, ?_⟩
            refine Wk.rCall 17 (some 122) 17 [.tmp 118, .tmp 121] #[22, 22] [.slice AA1 nn1 nn2, .slice AA3 nn5 nn6] rfl rfl (by kernel_rfl) rfl (by kernel_rfl) (by kernel_rfl) ?_
            have ow4 := Mur.OwnA.chg ow1 ch17 (fun q e _ _ => trivial)
            have ow5 := Mur.OwnA.chg ow4 ch18 (fun q e _ _ => trivial)
            have ow6 := Mur.OwnA.chg ow5 ch19 (fun q e _ _ => ⟨by have := ow1.lt q e; omega, trivial⟩)
            have ow7 := Mur.OwnA.chg ow6 ch20 (fun q e _ _ => trivial)
            have ow8 := Mur.OwnA.chg ow7 ch21 (fun q e _ _ => trivial)
            have ow9 := Mur.OwnA.chg ow8 ch22 (fun q e _ _ => ⟨by have := ow1.lt q e; omega, trivial⟩)
            have ow10 := Mur.OwnA.chg ow9 ch23 (fun q e _ _ => trivial)
            have ow11 := Mur.OwnA.chg ow10 ch24 (fun q e _ _ => trivial)
            have ow12 := Mur.OwnA.chg ow11 ch25 (fun q e _ _ => trivial)
            refine (Same20_any AA1 nn1 nn2 (Mur.belowL p L1) AA3 nn5 nn6 (Mur.belowL p L1) W27 ow12.sl ow3.sl (by omega)).mono ?_
            rw [decide_eq_true (rfl : (Mur.belowL p L1) = (Mur.belowL p L1))]
            rintro _ W28 ⟨rfl, ch26⟩
            have zz31 := ch26.size
            refine ⟨_, rfl, ?_⟩
            refine Wk.rPure 18 (some 123) (.bool false) rfl rfl (by kernel_rfl) (by kernel_rfl) ?_
            refine Wk.rPure 19 (some 124) (.bool false) rfl rfl (by kernel_rfl) (by kernel_rfl) ?_
            refine Wk.rPure 20 (some 125) (.bool false) rfl rfl (by kernel_rfl) (by kernel_rfl) ?_
            refine Wk.rPure 21 (some 126) (.agg ((b8s dd1).toArray)) rfl rfl (by kernel_rfl) (Mur.loadAll 30 (.tmp 15) rfl _ Tryd.underlying30 rfl W19.heap.size (by kernel_rfl) dd1 32 hdl1 (by kernel_rfl) 30 (0, 0) (Wk.Chg.hp ch26 (Wk.Chg.hp ch25 (Wk.Chg.hp ch24 (Wk.Chg.hp ch23 (Wk.Chg.hp ch22 (Wk.Chg.hp ch21 (Wk.Chg.hp ch20 hb4 trivial) trivial) ⟨by omega, trivial⟩) trivial) trivial) trivial) trivial)) ?_
            refine Wk.rPure 22 (some 127) (.agg ((b8s dd2).toArray)) rfl rfl (by kernel_rfl) (Mur.loadAll 30 (.tmp 17) rfl _ Tryd.underlying30 rfl W22.heap.size (by kernel_rfl) dd2 32 hdl2 (by kernel_rfl) 30 (0, 0) (Wk.Chg.hp ch26 (Wk.Chg.hp ch25 (Wk.Chg.hp ch24 (Wk.Chg.hp ch23 hb6 trivial) trivial) trivial) trivial)) ?_
            refine Wk.rPure 23 (some 128) (.bool false) rfl rfl (by kernel_rfl) (Mur.neq_no digT dd1 dd2 hdl1 (hd1.out.trans hd2.out.symm) _ (.tmp 126) (.tmp 127) 30 rfl (by kernel_rfl) (by kernel_rfl)) ?_
            refine Wk.rPure 24 (some 129) (.bool false) rfl rfl (by kernel_rfl) (by kernel_rfl) ?_
            refine Wk.rPure 25 (some 130) (.bool false) rfl rfl (by kernel_rfl) (by kernel_rfl) ?_
            refine Wk.rPure 26 (some 131) (.int .i64 (((Mur.belowL p L1).length : Nat) : Int)) rfl rfl (by kernel_rfl) (by kernel_rfl) ?_
            refine Wk.rPure 27 (some 132) (.int .i64 (((Mur.belowL p L1).length : Nat) : Int)) rfl rfl (by kernel_rfl) (by kernel_rfl) ?_
            by_cases hx12 : (((Mur.belowL p L1).length : Nat) : Int) ≠ (((Mur.belowL p L1).length : Nat) : Int)
            · refine Wk.rPure 28 (some 133) (.bool true) rfl rfl (by kernel_rfl) (Wk.boolT (b := ((((Mur.belowL p L1).length : Nat) : Int) != (((Mur.belowL p L1).length : Nat) : Int))) (bne_iff_ne.2 (by first | exact hx12 | omega)) (by kernel_rfl)) ?_
              refine Wk.rPure 29 (some 134) (.bool true) rfl rfl (by kernel_rfl) (by kernel_rfl) ?_
              refine Wk.rPure 30 (some 135) (.bool true) rfl rfl (by kernel_rfl) (by kernel_rfl) ?_
              refine Wk.rPass 31 (some 136) rfl rfl (by kernel_rfl) ?_
              refine Wk.rPass 32 (some 137) rfl rfl (by kernel_rfl) ?_
              refine Wk.rPass 33 (some 138) rfl rfl (by kernel_rfl) ?_
              refine Wk.rPass 34 (some 139) rfl rfl (by kernel_rfl) ?_
              refine Wk.rPass 35 (some 140) rfl rfl (by kernel_rfl) ?_
              refine Wk.rPure 36 (some 141) (.bool true) rfl rfl (by kernel_rfl) (by kernel_rfl) ?_
              refine Wk.rEnd 37 rfl ?_
              refine Wk.nxt ?_
              refine wp_cond_true (by kernel_rfl) ?_
              refine wp_seq ?_
              refine Wk.reg ?_
              refine Wk.rPure 0 (some 6) (.bool false) rfl rfl (by kernel_rfl) (by kernel_rfl) ?_
              refine Wk.rEnd 1 rfl ?_
              refine Wk.nxt ?_
              refine wp_ret ?_
              refine Wk.thR ?_
              exfalso; omega
            · refine Wk.rPure 28 (some 133) (.bool false) rfl rfl (by kernel_rfl) (Wk.boolF (b := ((((Mur.belowL p L1).length : Nat) : Int) != (((Mur.belowL p L1).length : Nat) : Int))) (bne_eq_false_iff_eq.2 (by first | exact hx12 | omega)) (by kernel_rfl)) ?_
              refine Wk.rPure 29 (some 134) (.bool false) rfl rfl (by kernel_rfl) (by kernel_rfl) ?_
              refine Wk.rPure 30 (some 135) (.bool false) rfl rfl (by kernel_rfl) (by kernel_rfl) ?_
              refine Wk.rPure 31 (some 136) (.slice PA pn pc) rfl rfl (by kernel_rfl) (by kernel_rfl) ?_
              refine Wk.rCall 32 (some 137) 19 [.tmp 136] #[38] [.slice PA pn pc] rfl rfl (by kernel_rfl) rfl (by kernel_rfl) (by kernel_rfl) ?_
              have kk32 := Wk.Chg.step kk31 ch25 trivial
              have kk33 := Wk.Chg.step kk32 ch26 trivial
              refine (IsPrefix_any p PA pn pc W28 (Mur.byt_chg hb kk33 (fun g off e hl => trivial)) (by omega)).mono ?_
              cases hpre1 : Mur.isPre p
              · rintro _ _ ⟨rfl, rfl⟩
                refine ⟨_, rfl, ?_⟩
                refine Wk.rPure 33 (some 138) (.slice PA pn pc) rfl rfl (by kernel_rfl) (by kernel_rfl) ?_
                refine Wk.rCall 34 (some 139) 30 [.tmp 138] #[38] [.slice PA pn pc] rfl rfl (by kernel_rfl) rfl (by kernel_rfl) (by kernel_rfl) ?_
                refine (Risp_any p PA pn pc W28 (Mur.byt_chg hb kk33 (fun g off e hl => trivial)) (by omega)).mono ?_
                rw [hpre1]
                rintro _ _ ⟨rfl, rfl⟩
                refine ⟨_, rfl, ?_⟩
                refine Wk.rPure 35 (some 140) (.bool false) rfl rfl (by kernel_rfl) (by kernel_rfl) ?_
                refine Wk.rPure 36 (some 141) (.bool false) rfl rfl (by kernel_rfl) (by kernel_rfl) ?_
                refine Wk.rEnd 37 rfl ?_
                refine Wk.nxt ?_
                refine wp_cond_false (by kernel_rfl) ?_
                refine wp_skip ?_
                refine Wk.nxt ?_
                refine wp_seq ?_
                refine wp_seq ?_
                refine Wk.reg ?_
                refine Wk.rPure 0 (some 142) (.slice AA1 nn1 nn2) rfl rfl (by kernel_rfl) (by kernel_rfl) ?_
                refine Wk.rPure 1 (some 143) (.int .i64 ((nn1 : Nat) : Int)) rfl rfl (by kernel_rfl) (by kernel_rfl) ?_
                refine Wk.rPure 2 (some 144) (.int .i64 0) rfl rfl (by kernel_rfl) (by kernel_rfl) ?_
                refine Wk.rEnd 3 rfl ?_
                refine Wk.nxt ?_
                refine wp_block ?_
                have ow13 := Mur.OwnA.chg ow12 ch26 (fun q e _ _ => trivial)
                have hD30 := Mur.SetF.chg hD29 ch23 (fun s hs => trivial)
                have hD31 := Mur.SetF.chg hD30 ch24 (fun s hs => trivial)
                have hD32 := Mur.SetF.chg hD31 ch25 (fun s hs => trivial)
                have hD33 := Mur.SetF.chg hD32 ch26 (fun s hs => trivial)
                have hdoc11 := (Mur.SlA.chg (Mur.SlA.chg (Mur.SlA.chg (Mur.SlA.chg (Mur.SlA.chg (Mur.SlA.chg (Mur.SlA.chg (Mur.SlA.chg (Mur.SlA.chg (Mur.SlA.chg (Mur.SlA.chg hdoc ch16 (fun g off e hl => trivial)) ch17 (fun g off e hl => trivial)) ch18 (fun g off e hl => trivial)) ch19 (fun g off e hl => ⟨by have := hnm g off e; omega, trivial⟩)) ch20 (fun g off e hl => trivial)) ch21 (fun g off e hl => trivial)) ch22 (fun g off e hl => ⟨by have := hnm g off e; omega, trivial⟩)) ch23 (fun g off e hl => trivial)) ch24 (fun g off e hl => trivial)) ch25 (fun g off e hl => trivial)) ch26 (fun g off e hl => trivial))
                refine Wk.loop (fun m_ a wr => ∃ (i : Nat), m_ = nn1 - i ∧ a = Pla20_F2 a.tmps (.pointer (some ⟨w.heap.size, 0, none⟩)) (.pointer (some ⟨g, 0, none⟩)) (.slice DA dn dc) (.slice AA1 nn1 nn2) (.int .i64 ((nn1 : Nat) : Int)) (.int .i64 ((i : Nat) : Int)) ∧ i ≤ nn1 ∧ Wk.Chg (Wk.blk (.slice AA1 nn1 nn2)) W28 wr ∧ (∀ q_, (Go.Value.slice AA1 nn1 nn2).ownBlock = some q_ → ∃ cs_, wr.heap[q_]? = some (.cells cs_ 32 (0, 0)) ∧ cs_.size = nn2 * 97)) (nn1 - 0) ?_ ?_
                · refine ⟨0, rfl, by kernel_rfl, (by omega), ((Wk.Chg.refl _).more (by simp)), (Mur.ownA_cells ow13)⟩
                · rintro mm2 aa2 W29 ⟨i, hmm2, hF2, hi, HZ, hcz⟩
                  generalize aa2.tmps = bb2 at hF2
                  subst hF2
                  have hzZ := HZ.size
                  have hHl := ow13.sl.len
                  have hHn := ow13.nc
                  by_cases hlt : i < nn1
                  · obtain ⟨g_z, hA_z, hz1_, hz2_⟩ := ow13.ex (by omega)
                    obtain ⟨cs_z, hcs1, hcs2⟩ := hcz g_z (by rw [hA_z]; rfl)
                    subst hA_z
                    refine wp_seq ?_
                    refine Wk.reg ?_
                    refine Wk.rPure 0 (some 145) (.bool true) rfl rfl (by kernel_rfl) (Wk.boolT (b := decide (((i : Nat) : Int) < ((nn1 : Nat) : Int))) (decide_eq_true (by omega)) (by kernel_rfl)) ?_
                    refine Wk.rEnd 1 rfl ?_
                    refine Wk.nxt ?_
                    refine wp_seq ?_
                    refine wp_cond_true (by kernel_rfl) ?_
                    refine wp_skip ?_
                    refine Wk.nxt ?_
                    refine wp_seq ?_
                    refine wp_block ?_
                    refine wp_seq ?_
                    refine Wk.reg ?_
                    refine Wk.rPure 0 (some 146) (.int .i64 ((i : Nat) : Int)) rfl rfl (by kernel_rfl) (by kernel_rfl) ?_
                    refine Wk.rPure 1 (some 19) (.int .i64 ((i : Nat) : Int)) rfl rfl (by kernel_rfl) (by kernel_rfl) ?_
                    refine Wk.rEnd 2 rfl ?_
                    refine Wk.nxt ?_
                    refine Wk.reg ?_
                    refine Wk.rPure 0 (some 147) (.slice (some ⟨g_z, 0, none⟩) nn1 nn2) rfl rfl (by kernel_rfl) (by kernel_rfl) ?_
                    refine Wk.rPure 1 (some 148) (.int .i64 ((i : Nat) : Int)) rfl rfl (by kernel_rfl) (by kernel_rfl) ?_
                    refine Wk.rPure 2 (some 149) (.pointer (some ⟨g_z, 0 + i * 97, none⟩)) rfl rfl (by kernel_rfl) (Wk.index_sl 22 32 (.tmp 147) (.tmp 148) rfl Tryd.underlying22 97 (by kernel_rfl) g_z 0 nn1 nn2 i .i64 (by kernel_rfl) (by kernel_rfl) (by omega)) ?_
                    refine Wk.rPure 3 (some 150) (.pointer (some ⟨g_z, 0 + i * 97 + 64, none⟩)) rfl rfl (by kernel_rfl) (by kernel_rfl) ?_
                    refine Wk.rExS 4 none _ rfl rfl (by kernel_rfl) (Wk.store1 3 (.tmp 150) (.const (.int .i64 0)) rfl (by kernel_rfl) g_z (0 + i * 97 + 64) (by kernel_rfl) (.int .i64 0) (by kernel_rfl) rfl 32 cs_z hcs1 (by omega)) ?_
                    rintro W30 ⟨hst1, ch27⟩
                    have zz32 := ch27.size
                    refine Wk.rEnd 5 rfl ?_
                    refine Wk.inN ?_
                    refine Wk.nxt ?_
                    refine Wk.reg ?_
                    refine Wk.rPure 0 (some 151) (.int .i64 ((i + 1 : Nat) : Int)) rfl rfl (by kernel_rfl) (Wk.int64 (n := ((i : Nat) : Int) + 1) (z := ((i + 1 : Nat) : Int)) (by omega) (by omega) (by omega) (by kernel_rfl)) ?_
                    refine Wk.rPure 1 (some 144) (.int .i64 ((i + 1 : Nat) : Int)) rfl rfl (by kernel_rfl) (by kernel_rfl) ?_
                    refine Wk.rEnd 2 rfl ?_
                    refine Wk.nxt ?_
                    refine ⟨_, ?_, i + 1, rfl, by kernel_rfl, (by omega), (Wk.Chg.step HZ ch27 ⟨.inl (Wk.mem_blk rfl), trivial⟩), (fun q_ hq_ => by cases hq_; exact ⟨_, hst1, by rw [Array.size_setIfInBounds]; exact hcs2⟩)⟩
                    · omega
                  · have hsetZ := Mur.SetF.chg hD33 HZ (fun s hs => Wk.off_blk (fun gz hgz => by have := ow13.lt gz hgz; have := hM1 s hs; omega))
                    have hdocZ := Mur.SlA.chg hdoc11 HZ (fun g off e_ _ => Wk.off_blk (fun gz hgz => by have := ow13.lt gz hgz; have := hnm g off e_; omega))
                    have hkeyZ := Wk.Chg.hp HZ (Wk.Chg.hp ch26 (Wk.Chg.hp ch25 (Wk.Chg.hp ch24 (Wk.Chg.hp ch23 (Wk.Chg.hp ch22 (Wk.Chg.hp ch21 (Wk.Chg.hp ch20 (Wk.Chg.hp ch19 (Wk.Chg.hp ch18 (Wk.Chg.hp ch17 (Wk.Chg.hp ch16 hX trivial) trivial) trivial) ⟨by omega, trivial⟩) trivial) trivial) ⟨by omega, trivial⟩) trivial) trivial) trivial) trivial) (Wk.off_blk (fun gz hgz => by have := ow13.lt gz hgz; omega))
                    have hhqZ := Wk.Chg.hp HZ (Wk.Chg.hp ch26 (Wk.Chg.hp ch25 (Wk.Chg.hp ch24 (Wk.Chg.hp ch23 (Wk.Chg.hp ch22 (Wk.Chg.hp ch21 (Wk.Chg.hp ch20 (Wk.Chg.hp ch19 (Wk.Chg.hp ch18 (Wk.Chg.hp ch17 (Wk.Chg.hp ch16 hHq trivial) trivial) trivial) ⟨by omega, trivial⟩) trivial) trivial) ⟨by omega, trivial⟩) trivial) trivial) trivial) trivial) (Wk.off_blk (fun gz hgz => by have := ow13.lt gz hgz; omega))
                    have hchZ : Wk.Chg [] w W29 := Wk.Chg.step kk33 HZ (Wk.newOr_blk (fun g hg => by have := ow13.lt g hg; omega))
                    have hzzZ := hchZ.size
                    have hmmZ := Mur.SetF.mem hsetZ
                    have hllZ := (hmmZ _ (Mur.SetF.self hsetZ)).2
                    refine wp_seq ?_
                    refine Wk.reg ?_
                    refine Wk.rPure 0 (some 145) (.bool false) rfl rfl (by kernel_rfl) (Wk.boolF (b := decide (((i : Nat) : Int) < ((nn1 : Nat) : Int))) (decide_eq_false (by omega)) (by kernel_rfl)) ?_
                    refine Wk.rEnd 1 rfl ?_
                    refine Wk.nxt ?_
                    refine wp_seq ?_
                    refine wp_cond_false (by kernel_rfl) ?_
                    refine wp_exit ?_
                    refine Wk.thX ?_
                    refine Wk.thX ?_
                    refine Wk.inX ?_
                    refine Wk.nxt ?_
                    refine wp_seq ?_
                    refine Wk.reg ?_
                    refine Wk.rPure 0 (some 20) (.slice none 0 0) rfl rfl (by kernel_rfl) (by kernel_rfl) ?_
                    refine Wk.rEnd 1 rfl ?_
                    refine Wk.nxt ?_
                    refine wp_seq ?_
                    refine wp_seq ?_
                    refine Wk.reg ?_
                    refine Wk.rPure 0 (some 152) (.slice DA dn dc) rfl rfl (by kernel_rfl) (by kernel_rfl) ?_
                    refine Wk.rPure 1 (some 153) (.int .i64 ((dn : Nat) : Int)) rfl rfl (by kernel_rfl) (by kernel_rfl) ?_
                    refine Wk.rPure 2 (some 154) (.int .i64 0) rfl rfl (by kernel_rfl) (by kernel_rfl) ?_
                    refine Wk.rEnd 3 rfl ?_
                    refine Wk.nxt ?_
                    refine wp_block ?_
                    refine Wk.loop (fun m_ a wr => ∃ (i : Nat) (A2 : Option Addr) (N : Nat) (c2 : Nat), m_ = dn - i ∧ a = Pla20_F3 a.tmps (.pointer (some ⟨w.heap.size, 0, none⟩)) (.pointer (some ⟨g, 0, none⟩)) (.slice DA dn dc) (.slice A2 N c2) (.int .i64 ((dn : Nat) : Int)) (.int .i64 ((i : Nat) : Int)) ∧ i ≤ dn ∧ OwnA wr W29.heap.size 32 A2 N c2 (Mur.ofK k (L1.take i)) ∧ Wk.Chg [] W29 wr) (dn - 0) ?_ ?_
                    · refine ⟨0, none, 0, 0, rfl, by kernel_rfl, (by omega), (by exact Mur.ownA_nil _ _ _), (Wk.Chg.refl _)⟩
                    · rintro mm3 aa3 W31 ⟨i, A2, N, c2, hmm3, hF3, hi, hO, HK⟩
                      generalize aa3.tmps = bb3 at hF3
                      subst hF3
                      have hsetK := Mur.SetF.chg hsetZ HK (fun _ _ => trivial)
                      have hdocK := Mur.SlA.chg hdocZ HK (fun _ _ _ _ => trivial)
                      have hkeyK := Wk.Chg.hp HK hkeyZ trivial
                      have hhqK := Wk.Chg.hp HK hhqZ trivial
                      have hchK : Wk.Chg [] w W31 := Wk.Chg.step hchZ HK trivial
                      have hzK := HK.size
                      have hzzK := hchK.size
                      have hmmK := Mur.SetF.mem hsetK
                      have hllK := (hmmK _ (Mur.SetF.self hsetK)).2
                      have hOn := hO.nc
                      have hOl := hO.sl.len
                      have hol_ := Mur.ofK_len k (L1.take i)
                      rw [List.length_take] at hol_
                      have hdK := hdocK.len
                      by_cases hlt : i < dn
                      · obtain ⟨g_x, o_x, rfl, _⟩ := hdocK.ex (by omega)
                        obtain ⟨x, hx⟩ : ∃ x, L1[i]? = some x := ⟨_, List.getElem?_eq_getElem (by have := hdocK.len; omega)⟩
                        refine wp_seq ?_
                        refine Wk.reg ?_
                        refine Wk.rPure 0 (some 155) (.bool true) rfl rfl (by kernel_rfl) (Wk.boolT (b := decide (((i : Nat) : Int) < ((dn : Nat) : Int))) (decide_eq_true (by omega)) (by kernel_rfl)) ?_
                        refine Wk.rEnd 1 rfl ?_
                        refine Wk.nxt ?_
                        refine wp_seq ?_
                        refine wp_cond_true (by kernel_rfl) ?_
                        refine wp_skip ?_
                        refine Wk.nxt ?_
                        refine wp_seq ?_
                        refine wp_block ?_
                        refine wp_seq ?_
                        refine Wk.reg ?_
                        refine Wk.rPure 0 (some 156) (.int .i64 ((i : Nat) : Int)) rfl rfl (by kernel_rfl) (by kernel_rfl) ?_
                        refine Wk.rPure 1 (some 21) (.int .i64 ((i : Nat) : Int)) rfl rfl (by kernel_rfl) (by kernel_rfl) ?_
                        refine Wk.rEnd 2 rfl ?_
                        refine Wk.nxt ?_
                        refine wp_seq ?_
                        refine Wk.dReg ([]) (by kernel_rfl) ?_
                        intro W32 ch28 sz5
                        have zz33 := ch28.size
                        have sS1 : Wk.Chg ([]) W32 W32 := (Wk.Chg.refl _).more (by simp)
                        refine Wk.dVal 0 (some 157) (.slice (some ⟨g_x, o_x, none⟩) dn dc) rfl rfl (by kernel_rfl) (by kernel_rfl) (by kernel_rfl) (fun _ _ _ h => h) (by kernel_rfl) (fun w' hw' => by kernel_rfl) sS1 ?_
                        refine Wk.dVal 1 (some 158) (.int .i64 ((i : Nat) : Int)) rfl rfl (by kernel_rfl) (by kernel_rfl) (by kernel_rfl) (fun _ _ _ h => h) (by kernel_rfl) (fun w' hw' => by kernel_rfl) sS1 ?_
                        refine Wk.dVal 2 (some 159) (.pointer (some ⟨g_x, o_x + i * 97, none⟩)) rfl rfl (by kernel_rfl) (by kernel_rfl) (by kernel_rfl) (fun _ _ _ h => h) (by kernel_rfl) (fun w' hw' => (Wk.index_sl 50 32 (.tmp 157) (.tmp 158) rfl Tryd.underlying50 97 (by kernel_rfl) g_x o_x dn dc i .i64 (by kernel_rfl) (by kernel_rfl) (by omega))) sS1 ?_
                        refine Wk.dVal 3 (some 160) (.pointer (some ⟨g_x, o_x + i * 97, none⟩)) rfl rfl (by kernel_rfl) (by kernel_rfl) (by kernel_rfl) (fun _ _ _ h => h) (by kernel_rfl) (fun w' hw' => by kernel_rfl) sS1 ?_
                        refine Wk.dVal 4 (some 161) (.agg ((b8s x.k).toArray)) rfl rfl (by kernel_rfl) (by kernel_rfl) (by kernel_rfl) (fun _ _ _ h => h) (by kernel_rfl) (fun w' hw' => (Wk.loadR 30 (.tmp 160) rfl _ Tryd.underlying30 rfl g_x (o_x + i * 97) (by kernel_rfl) (b8s x.k) (by rw [Mur.b8s_length, x.hk]; kernel_rfl) ((Mur.SlA.chg (Mur.SlA.chg hdocK ch28 (fun g off e hl => trivial)) hw' (fun g off e hl => trivial)).key hx))) sS1 ?_
                        refine Wk.dVal 5 (some 162) (.agg ((b8s k).toArray)) rfl rfl (by kernel_rfl) (by kernel_rfl) (by kernel_rfl) (fun _ _ _ h => h) (by kernel_rfl) (fun w' hw' => (Mur.loadAll 30 (.tmp 5) rfl _ Tryd.underlying30 rfl w.heap.size (by kernel_rfl) k 32 hk (by kernel_rfl) 30 (0, 0) (Wk.Chg.hp hw' (Wk.Chg.hp ch28 hkeyK trivial) trivial))) sS1 ?_
                        by_cases hkx : x.k = k
                        · refine Wk.dVal 6 (some 163) (.bool true) rfl rfl (by kernel_rfl) (by kernel_rfl) (by kernel_rfl) (fun _ _ _ h => h) (by kernel_rfl) (fun w' hw' => (Mur.run_eql_yes digT x.k k x.hk hk hkx _ (.tmp 161) (.tmp 162) 30 rfl (by kernel_rfl) (by kernel_rfl))) sS1 ?_
                          refine Wk.dEnd (by kernel_rfl) ?_
                          refine Wk.nxt ?_
                          refine wp_cond_true (by kernel_rfl) ?_
                          refine Wk.reg ?_
                          refine Wk.rPure 0 (some 164) (.slice A2 N c2) rfl rfl (by kernel_rfl) (by kernel_rfl) ?_
                          refine Wk.rPure 1 (some 165) (.slice (some ⟨g_x, o_x, none⟩) dn dc) rfl rfl (by kernel_rfl) (by kernel_rfl) ?_
                          refine Wk.rPure 2 (some 166) (.int .i64 ((i : Nat) : Int)) rfl rfl (by kernel_rfl) (by kernel_rfl) ?_
                          refine Wk.rPure 3 (some 167) (.pointer (some ⟨g_x, o_x + i * 97, none⟩)) rfl rfl (by kernel_rfl) (Wk.index_sl 50 32 (.tmp 165) (.tmp 166) rfl Tryd.underlying50 97 (by kernel_rfl) g_x o_x dn dc i .i64 (by kernel_rfl) (by kernel_rfl) (by omega)) ?_
                          refine Wk.rPure 4 (some 168) (.agg ((Mur.attC x.k x.r x.n x.t).toArray)) rfl rfl (by kernel_rfl) (Wk.loadR 32 (.tmp 167) rfl _ Tryd.underlying32 rfl g_x (o_x + i * 97) (by kernel_rfl) (Mur.attC x.k x.r x.n x.t) (by rw [Mur.attC_length x.hk x.hr x.ht]; kernel_rfl) ((Mur.SlA.chg hdocK ch28 (fun g off e hl => trivial)).elem hx)) ?_
                          refine Wk.rEx 5 (some 169) _ rfl rfl (by kernel_rfl) (Mur.build1 22 32 (.tmp 168) rfl Tryd.underlying22 attI x.k x.r x.t x.n x.hk x.hr x.ht (by kernel_rfl)) ?_
                          rintro _ W33 ⟨rfl, hb7, ch29, sz6⟩
                          have zz34 := ch29.size
                          have ow14 := Mur.OwnA.chg hO ch28 (fun q e _ _ => trivial)
                          have ow15 := Mur.OwnA.chg ow14 ch29 (fun q e _ _ => trivial)
                          refine Wk.rEx 6 (some 170) _ rfl rfl (by kernel_rfl) (Mur.appendA (.tmp 164) (.tmp 169) 22 32 rfl Tryd.underlying22 attI W29.heap.size A2 N c2 (Mur.ofK k (L1.take i)) (some ⟨W32.heap.size, 0, none⟩) 1 1 ([x]) (by kernel_rfl) (by kernel_rfl) ow15 (Mur.slA_box x hb7) (fun h => by cases h) (by omega) (by omega) (N + 1) (by omega) ((Mur.ofK k (L1.take i)) ++ ([x])) rfl) ?_
                          rintro _ W34 ⟨AA4, nn7, rfl, ow16, ch30, ha1⟩
                          have zz35 := ch30.size
                          have hq13 := ow16.nc
                          have hq14 := ow16.cm
                          refine Wk.rPure 7 (some 20) (.slice AA4 (N + 1) nn7) rfl rfl (by kernel_rfl) (by kernel_rfl) ?_
                          refine Wk.rEnd 8 rfl ?_
                          refine Wk.inN ?_
                          refine Wk.nxt ?_
                          refine Wk.reg ?_
                          refine Wk.rPure 0 (some 171) (.int .i64 ((i + 1 : Nat) : Int)) rfl rfl (by kernel_rfl) (Wk.int64 (n := ((i : Nat) : Int) + 1) (z := ((i + 1 : Nat) : Int)) (by omega) (by omega) (by omega) (by kernel_rfl)) ?_
                          refine Wk.rPure 1 (some 154) (.int .i64 ((i + 1 : Nat) : Int)) rfl rfl (by kernel_rfl) (by kernel_rfl) ?_
                          refine Wk.rEnd 2 rfl ?_
                          refine Wk.nxt ?_
                          have kk34 := Wk.Chg.step HK ch28 trivial
                          have kk35 := Wk.Chg.step kk34 ch29 trivial
                          have kk36 := Wk.Chg.step kk35 ch30 (Wk.newOr_blk (fun g hg => by have := hO.lt g hg; omega))
                          refine ⟨_, ?_, i + 1, AA4, N + 1, nn7, rfl, by kernel_rfl, (by omega), (by rw [Mur.take_snoc hx, Mur.ofK_yes hkx]; exact ow16), kk36⟩
                          · omega
                        · refine Wk.dVal 6 (some 163) (.bool false) rfl rfl (by kernel_rfl) (by kernel_rfl) (by kernel_rfl) (fun _ _ _ h => h) (by kernel_rfl) (fun w' hw' => (Mur.run_eql_no digT x.k k x.hk hk hkx _ (.tmp 161) (.tmp 162) 30 rfl (by kernel_rfl) (by kernel_rfl))) sS1 ?_
                          refine Wk.dEnd (by kernel_rfl) ?_
                          refine Wk.nxt ?_
                          refine wp_cond_false (by kernel_rfl) ?_
                          refine wp_skip ?_
                          refine Wk.inN ?_
                          refine Wk.nxt ?_
                          refine Wk.reg ?_
                          refine Wk.rPure 0 (some 171) (.int .i64 ((i + 1 : Nat) : Int)) rfl rfl (by kernel_rfl) (Wk.int64 (n := ((i : Nat) : Int) + 1) (z := ((i + 1 : Nat) : Int)) (by omega) (by omega) (by omega) (by kernel_rfl)) ?_
                          refine Wk.rPure 1 (some 154) (.int .i64 ((i + 1 : Nat) : Int)) rfl rfl (by kernel_rfl) (by kernel_rfl) ?_
                          refine Wk.rEnd 2 rfl ?_
                          refine Wk.nxt ?_
                          have ow17 := Mur.OwnA.chg hO ch28 (fun q e _ _ => trivial)
                          have kk37 := Wk.Chg.step HK ch28 trivial
                          refine ⟨_, ?_, i + 1, A2, N, c2, rfl, by kernel_rfl, (by omega), (by rw [Mur.take_snoc hx, Mur.ofK_no hkx]; exact ow17), kk37⟩
                          · omega
                      · rw [List.take_of_length_le (show L1.length ≤ i by omega)] at hO
                        refine wp_seq ?_
                        refine Wk.reg ?_
                        refine Wk.rPure 0 (some 155) (.bool false) rfl rfl (by kernel_rfl) (Wk.boolF (b := decide (((i : Nat) : Int) < ((dn : Nat) : Int))) (decide_eq_false (by omega)) (by kernel_rfl)) ?_
                        refine Wk.rEnd 1 rfl ?_
                        refine Wk.nxt ?_
                        refine wp_seq ?_
                        refine wp_cond_false (by kernel_rfl) ?_
                        refine wp_exit ?_
                        refine Wk.thX ?_
                        refine Wk.thX ?_
                        refine Wk.inX ?_
                        refine Wk.nxt ?_
                        refine wp_seq ?_
                        refine Wk.reg ?_
                        refine Wk.rPure 0 (some 172) (.pointer (some ⟨g, 0, none⟩)) rfl rfl (by kernel_rfl) (by kernel_rfl) ?_
                        refine Wk.rPure 1 (some 173) (.agg ((b8s k).toArray)) rfl rfl (by kernel_rfl) (Mur.loadAll 30 (.tmp 5) rfl _ Tryd.underlying30 rfl w.heap.size (by kernel_rfl) k 32 hk (by kernel_rfl) 30 (0, 0) hkeyK) ?_
                        refine Wk.rCall 2 (some 174) 31 [.tmp 172, .tmp 173] #[24, 30] [.pointer (some ⟨g, 0, none⟩), .agg ((b8s k).toArray)] rfl rfl (by kernel_rfl) rfl (by kernel_rfl) (by kernel_rfl) ?_
                        refine (Of_any W4.heap.size L1 g F1 k W31 hsetK hk).mono ?_
                        rintro _ W35 ⟨AA5, nn8, nn9, rfl, ow18, ch31⟩
                        have zz36 := ch31.size
                        have hq15 := ow18.nc
                        have hq16 := ow18.cm
                        have hq17 := ow18.sl.len
                        have hq18 : (Mur.ofK k L1).length ≤ 200 := Nat.le_trans (Mur.ofK_len _ _) (Mur.SetF.len hsetK)
                        refine ⟨_, rfl, ?_⟩
                        refine Wk.rPure 3 (some 175) (.slice A2 N c2) rfl rfl (by kernel_rfl) (by kernel_rfl) ?_
                        refine Wk.rCall 4 (some 176) 17 [.tmp 174, .tmp 175] #[22, 22] [.slice AA5 nn8 nn9, .slice A2 N c2] rfl rfl (by kernel_rfl) rfl (by kernel_rfl) (by kernel_rfl) ?_
                        have ow19 := Mur.OwnA.chg hO ch31 (fun q e _ _ => trivial)
                        refine (Same20_any AA5 nn8 nn9 (Mur.ofK k L1) A2 N c2 (Mur.ofK k L1) W35 ow18.sl ow19.sl (by omega)).mono ?_
                        rw [decide_eq_true (rfl : (Mur.ofK k L1) = (Mur.ofK k L1))]
                        rintro _ W36 ⟨rfl, ch32⟩
                        have zz37 := ch32.size
                        refine ⟨_, rfl, ?_⟩
                        refine Wk.rPure 5 (some 177) (.bool true) rfl rfl (by kernel_rfl) (by kernel_rfl) ?_
                        refine Wk.rPure 6 (some 178) (.pointer (some ⟨g, 0, none⟩)) rfl rfl (by kernel_rfl) (by kernel_rfl) ?_
                        refine Wk.rCall 7 (some 179) 18 [.tmp 178, .const (.slice none 0 0)] #[24, 38] [.pointer (some ⟨g, 0, none⟩), .slice none 0 0] rfl rfl (by kernel_rfl) rfl (by kernel_rfl) (by kernel_rfl) ?_
                        have hD34 := Mur.SetF.chg hsetK ch31 (fun s hs => trivial)
                        have hD35 := Mur.SetF.chg hD34 ch32 (fun s hs => trivial)
                        refine (Below_any W4.heap.size L1 g F1 ([]) none 0 0 W36 hD35 (Byt.nil _ none) (by omega)).mono ?_
                        rw [Mur.belowL_nil]
                        rintro _ W37 ⟨AA6, nn10, nn11, rfl, ow20, ch33⟩
                        have zz38 := ch33.size
                        have hq19 := ow20.nc
                        have hq20 := ow20.cm
                        have hq21 := ow20.sl.len
                        have hq22 : L1.length ≤ 200 := Nat.le_trans (Nat.le_refl _) (Mur.SetF.len hD35)
                        refine ⟨_, rfl, ?_⟩
                        refine Wk.rPure 8 (some 180) (.slice DA dn dc) rfl rfl (by kernel_rfl) (by kernel_rfl) ?_
                        refine Wk.rCall 9 (some 181) 17 [.tmp 179, .tmp 180] #[22, 22] [.slice AA6 nn10 nn11, .slice DA dn dc] rfl rfl (by kernel_rfl) rfl (by kernel_rfl) (by kernel_rfl) ?_
                        refine (Same20_any AA6 nn10 nn11 L1 DA dn dc L1 W37 ow20.sl (Mur.SlA.chg (Mur.SlA.chg (Mur.SlA.chg hdocK ch31 (fun g off e hl => trivial)) ch32 (fun g off e hl => trivial)) ch33 (fun g off e hl => trivial)) (by omega)).mono ?_
                        rw [decide_eq_true (rfl : L1 = L1)]
                        rintro _ W38 ⟨rfl, ch34⟩
                        have zz39 := ch34.size
                        refine ⟨_, rfl, ?_⟩
                        refine Wk.rPure 10 (some 182) (.bool true) rfl rfl (by kernel_rfl) (by kernel_rfl) ?_
                        refine Wk.rPure 11 (some 183) (.bool true) rfl rfl (by kernel_rfl) (by kernel_rfl) ?_
                        refine Wk.rCall 12 (some 184) 13 [] #[] [] rfl rfl (by kernel_rfl) rfl (by kernel_rfl) (by kernel_rfl) ?_
                        have kk38 := Wk.Chg.step hchK ch31 trivial
                        have kk39 := Wk.Chg.step kk38 ch32 trivial
                        have kk40 := Wk.Chg.step kk39 ch33 trivial
                        have kk41 := Wk.Chg.step kk40 ch34 trivial
                        refine (known20_any W38 (HV.out.below (Wk.Chg.below0 kk41))).mono ?_
                        rintro _ W39 ⟨rfl, ch35⟩
                        have zz40 := ch35.size
                        refine ⟨_, rfl, ?_⟩
                        refine Wk.rPure 13 (some 185) (.bool true) rfl rfl (by kernel_rfl) (by kernel_rfl) ?_
                        refine Wk.rPure 14 (some 6) (.bool true) rfl rfl (by kernel_rfl) (by kernel_rfl) ?_
                        refine Wk.rEnd 15 rfl ?_
                        refine Wk.nxt ?_
                        refine wp_ret ?_
                        have kk42 := Wk.Chg.step kk41 ch35 trivial
                        refine Wk.ret (.bool true) rfl (by kernel_rfl) ?_
                        exact ⟨rfl, Wk.Chg.below0 kk42⟩
              · rintro _ _ ⟨rfl, rfl⟩
                refine ⟨_, rfl, ?_⟩
                refine Wk.rPure 33 (some 138) (.slice PA pn pc) rfl rfl (by kernel_rfl) (by kernel_rfl) ?_
                refine Wk.rCall 34 (some 139) 30 [.tmp 138] #[38] [.slice PA pn pc] rfl rfl (by kernel_rfl) rfl (by kernel_rfl) (by kernel_rfl) ?_
                refine (Risp_any p PA pn pc W28 (Mur.byt_chg hb kk33 (fun g off e hl => trivial)) (by omega)).mono ?_
                rw [hpre1]
                rintro _ _ ⟨rfl, rfl⟩
                refine ⟨_, rfl, ?_⟩
                refine Wk.rPure 35 (some 140) (.bool false) rfl rfl (by kernel_rfl) (by kernel_rfl) ?_
                refine Wk.rPure 36 (some 141) (.bool false) rfl rfl (by kernel_rfl) (by kernel_rfl) ?_
                refine Wk.rEnd 37 rfl ?_
                refine Wk.nxt ?_
                refine wp_cond_false (by kernel_rfl) ?_
                refine wp_skip ?_
                refine Wk.nxt ?_
                refine wp_seq ?_
                refine wp_seq ?_
                refine Wk.reg ?_
                refine Wk.rPure 0 (some 142) (.slice AA1 nn1 nn2) rfl rfl (by kernel_rfl) (by kernel_rfl) ?_
                refine Wk.rPure 1 (some 143) (.int .i64 ((nn1 : Nat) : Int)) rfl rfl (by kernel_rfl) (by kernel_rfl) ?_
                refine Wk.rPure 2 (some 144) (.int .i64 0) rfl rfl (by kernel_rfl) (by kernel_rfl) ?_
                refine Wk.rEnd 3 rfl ?_
                refine Wk.nxt ?_
                refine wp_block ?_
                have ow21 := Mur.OwnA.chg ow12 ch26 (fun q e _ _ => trivial)
                have hD36 := Mur.SetF.chg hD29 ch23 (fun s hs => trivial)
                have hD37 := Mur.SetF.chg hD36 ch24 (fun s hs => trivial)
                have hD38 := Mur.SetF.chg hD37 ch25 (fun s hs => trivial)
                have hD39 := Mur.SetF.chg hD38 ch26 (fun s hs => trivial)
                have hdoc12 := (Mur.SlA.chg (Mur.SlA.chg (Mur.SlA.chg (Mur.SlA.chg (Mur.SlA.chg (Mur.SlA.chg (Mur.SlA.chg (Mur.SlA.chg (Mur.SlA.chg (Mur.SlA.chg (Mur.SlA.chg hdoc ch16 (fun g off e hl => trivial)) ch17 (fun g off e hl => trivial)) ch18 (fun g off e hl => trivial)) ch19 (fun g off e hl => ⟨by have := hnm g off e; omega, trivial⟩)) ch20 (fun g off e hl => trivial)) ch21 (fun g off e hl => trivial)) ch22 (fun g off e hl => ⟨by have := hnm g off e; omega, trivial⟩)) ch23 (fun g off e hl => trivial)) ch24 (fun g off e hl => trivial)) ch25 (fun g off e hl => trivial)) ch26 (fun g off e hl => trivial))
                refine Wk.loop (fun m_ a wr => ∃ (i : Nat), m_ = nn1 - i ∧ a = Pla20_F4 a.tmps (.pointer (some ⟨w.heap.size, 0, none⟩)) (.pointer (some ⟨g, 0, none⟩)) (.slice DA dn dc) (.slice AA1 nn1 nn2) (.int .i64 ((nn1 : Nat) : Int)) (.int .i64 ((i : Nat) : Int)) ∧ i ≤ nn1 ∧ Wk.Chg (Wk.blk (.slice AA1 nn1 nn2)) W28 wr ∧ (∀ q_, (Go.Value.slice AA1 nn1 nn2).ownBlock = some q_ → ∃ cs_, wr.heap[q_]? = some (.cells cs_ 32 (0, 0)) ∧ cs_.size = nn2 * 97)) (nn1 - 0) ?_ ?_
                · refine ⟨0, rfl, by kernel_rfl, (by omega), ((Wk.Chg.refl _).more (by simp)), (Mur.ownA_cells ow21)⟩
                · rintro mm4 aa4 W40 ⟨i, hmm4, hF4, hi, HZ, hcz⟩
                  generalize aa4.tmps = bb4 at hF4
                  subst hF4
                  have hzZ := HZ.size
                  have hHl := ow21.sl.len
                  have hHn := ow21.nc
                  by_cases hlt : i < nn1
                  · obtain ⟨g_z, hA_z, hz1_, hz2_⟩ := ow21.ex (by omega)
                    obtain ⟨cs_z, hcs1, hcs2⟩ := hcz g_z (by rw [hA_z]; rfl)
                    subst hA_z
                    refine wp_seq ?_
                    refine Wk.reg ?_
                    refine Wk.rPure 0 (some 145) (.bool true) rfl rfl (by kernel_rfl) (Wk.boolT (b := decide (((i : Nat) : Int) < ((nn1 : Nat) : Int))) (decide_eq_true (by omega)) (by kernel_rfl)) ?_
                    refine Wk.rEnd 1 rfl ?_
                    refine Wk.nxt ?_
                    refine wp_seq ?_
                    refine wp_cond_true (by kernel_rfl) ?_
                    refine wp_skip ?_
                    refine Wk.nxt ?_
                    refine wp_seq ?_
                    refine wp_block ?_
                    refine wp_seq ?_
                    refine Wk.reg ?_
                    refine Wk.rPure 0 (some 146) (.int .i64 ((i : Nat) : Int)) rfl rfl (by kernel_rfl) (by kernel_rfl) ?_
                    refine Wk.rPure 1 (some 19) (.int .i64 ((i : Nat) : Int)) rfl rfl (by kernel_rfl) (by kernel_rfl) ?_
                    refine Wk.rEnd 2 rfl ?_
                    refine Wk.nxt ?_
                    refine Wk.reg ?_
                    refine Wk.rPure 0 (some 147) (.slice (some ⟨g_z, 0, none⟩) nn1 nn2) rfl rfl (by kernel_rfl) (by kernel_rfl) ?_
                    refine Wk.rPure 1 (some 148) (.int .i64 ((i : Nat) : Int)) rfl rfl (by kernel_rfl) (by kernel_rfl) ?_
                    refine Wk.rPure 2 (some 149) (.pointer (some ⟨g_z, 0 + i * 97, none⟩)) rfl rfl (by kernel_rfl) (Wk.index_sl 22 32 (.tmp 147) (.tmp 148) rfl Tryd.underlying22 97 (by kernel_rfl) g_z 0 nn1 nn2 i .i64 (by kernel_rfl) (by kernel_rfl) (by omega)) ?_
                    refine Wk.rPure 3 (some 150) (.pointer (some ⟨g_z, 0 + i * 97 + 64, none⟩)) rfl rfl (by kernel_rfl) (by kernel_rfl) ?_
                    refine Wk.rExS 4 none _ rfl rfl (by kernel_rfl) (Wk.store1 3 (.tmp 150) (.const (.int .i64 0)) rfl (by kernel_rfl) g_z (0 + i * 97 + 64) (by kernel_rfl) (.int .i64 0) (by kernel_rfl) rfl 32 cs_z hcs1 (by omega)) ?_
                    rintro W41 ⟨hst2, ch36⟩
                    have zz41 := ch36.size
                    refine Wk.rEnd 5 rfl ?_
                    refine Wk.inN ?_
                    refine Wk.nxt ?_
                    refine Wk.reg ?_
                    refine Wk.rPure 0 (some 151) (.int .i64 ((i + 1 : Nat) : Int)) rfl rfl (by kernel_rfl) (Wk.int64 (n := ((i : Nat) : Int) + 1) (z := ((i + 1 : Nat) : Int)) (by omega) (by omega) (by omega) (by kernel_rfl)) ?_
                    refine Wk.rPure 1 (some 144) (.int .i64 ((i + 1 : Nat) : Int)) rfl rfl (by kernel_rfl) (by kernel_rfl) ?_
                    refine Wk.rEnd 2 rfl ?_
                    refine Wk.nxt ?_
                    refine ⟨_, ?_, i + 1, rfl, by kernel_rfl, (by omega), (Wk.Chg.step HZ ch36 ⟨.inl (Wk.mem_blk rfl), trivial⟩), (fun q_ hq_ => by cases hq_; exact ⟨_, hst2, by rw [Array.size_setIfInBounds]; exact hcs2⟩)⟩
                    · omega
                  · have hsetZ := Mur.SetF.chg hD39 HZ (fun s hs => Wk.off_blk (fun gz hgz => by have := ow21.lt gz hgz; have := hM1 s hs; omega))
                    have hdocZ := Mur.SlA.chg hdoc12 HZ (fun g off e_ _ => Wk.off_blk (fun gz hgz => by have := ow21.lt gz hgz; have := hnm g off e_; omega))
                    have hkeyZ := Wk.Chg.hp HZ (Wk.Chg.hp ch26 (Wk.Chg.hp ch25 (Wk.Chg.hp ch24 (Wk.Chg.hp ch23 (Wk.Chg.hp ch22 (Wk.Chg.hp ch21 (Wk.Chg.hp ch20 (Wk.Chg.hp ch19 (Wk.Chg.hp ch18 (Wk.Chg.hp ch17 (Wk.Chg.hp ch16 hX trivial) trivial) trivial) ⟨by omega, trivial⟩) trivial) trivial) ⟨by omega, trivial⟩) trivial) trivial) trivial) trivial) (Wk.off_blk (fun gz hgz => by have := ow21.lt gz hgz; omega))
                    have hhqZ := Wk.Chg.hp HZ (Wk.Chg.hp ch26 (Wk.Chg.hp ch25 (Wk.Chg.hp ch24 (Wk.Chg.hp ch23 (Wk.Chg.hp ch22 (Wk.Chg.hp ch21 (Wk.Chg.hp ch20 (Wk.Chg.hp ch19 (Wk.Chg.hp ch18 (Wk.Chg.hp ch17 (Wk.Chg.hp ch16 hHq trivial) trivial) trivial) ⟨by omega, trivial⟩) trivial) trivial) ⟨by omega, trivial⟩) trivial) trivial) trivial) trivial) (Wk.off_blk (fun gz hgz => by have := ow21.lt gz hgz; omega))
                    have hchZ : Wk.Chg [] w W40 := Wk.Chg.step kk33 HZ (Wk.newOr_blk (fun g hg => by have := ow21.lt g hg; omega))
                    have hzzZ := hchZ.size
                    have hmmZ := Mur.SetF.mem hsetZ
                    have hllZ := (hmmZ _ (Mur.SetF.self hsetZ)).2
                    refine wp_seq ?_
                    refine Wk.reg ?_
                    refine Wk.rPure 0 (some 145) (.bool false) rfl rfl (by kernel_rfl) (Wk.boolF (b := decide (((i : Nat) : Int) < ((nn1 : Nat) : Int))) (decide_eq_false (by omega)) (by kernel_rfl)) ?_
                    refine Wk.rEnd 1 rfl ?_
                    refine Wk.nxt ?_
                    refine wp_seq ?_
                    refine wp_cond_false (by kernel_rfl) ?_
                    refine wp_exit ?_
                    refine Wk.thX ?_
                    refine Wk.thX ?_
                    refine Wk.inX ?_
                    refine Wk.nxt ?_
                    refine wp_seq ?_
                    refine Wk.reg ?_
                    refine Wk.rPure 0 (some 20) (.slice none 0 0) rfl rfl (by kernel_rfl) (by kernel_rfl) ?_
                    refine Wk.rEnd 1 rfl ?_
                    refine Wk.nxt ?_
                    refine wp_seq ?_
                    refine wp_seq ?_
                    refine Wk.reg ?_
                    refine Wk.rPure 0 (some 152) (.slice DA dn dc) rfl rfl (by kernel_rfl) (by kernel_rfl) ?_
                    refine Wk.rPure 1 (some 153) (.int .i64 ((dn : Nat) : Int)) rfl rfl (by kernel_rfl) (by kernel_rfl) ?_
                    refine Wk.rPure 2 (some 154) (.int .i64 0) rfl rfl (by kernel_rfl) (by kernel_rfl) ?_
                    refine Wk.rEnd 3 rfl ?_
                    refine Wk.nxt ?_
                    refine wp_block ?_
                    refine Wk.loop (fun m_ a wr => ∃ (i : Nat) (A2 : Option Addr) (N : Nat) (c2 : Nat), m_ = dn - i ∧ a = Pla20_F5 a.tmps (.pointer (some ⟨w.heap.size, 0, none⟩)) (.pointer (some ⟨g, 0, none⟩)) (.slice DA dn dc) (.slice A2 N c2) (.int .i64 ((dn : Nat) : Int)) (.int .i64 ((i : Nat) : Int)) ∧ i ≤ dn ∧ OwnA wr W40.heap.size 32 A2 N c2 (Mur.ofK k (L1.take i)) ∧ Wk.Chg [] W40 wr) (dn - 0) ?_ ?_
                    · refine ⟨0, none, 0, 0, rfl, by kernel_rfl, (by omega), (by exact Mur.ownA_nil _ _ _), (Wk.Chg.refl _)⟩
                    · rintro mm5 aa5 W42 ⟨i, A2, N, c2, hmm5, hF5, hi, hO, HK⟩
                      generalize aa5.tmps = bb5 at hF5
                      subst hF5
                      have hsetK := Mur.SetF.chg hsetZ HK (fun _ _ => trivial)
                      have hdocK := Mur.SlA.chg hdocZ HK (fun _ _ _ _ => trivial)
                      have hkeyK := Wk.Chg.hp HK hkeyZ trivial
                      have hhqK := Wk.Chg.hp HK hhqZ trivial
                      have hchK : Wk.Chg [] w W42 := Wk.Chg.step hchZ HK trivial
                      have hzK := HK.size
                      have hzzK := hchK.size
                      have hmmK := Mur.SetF.mem hsetK
                      have hllK := (hmmK _ (Mur.SetF.self hsetK)).2
                      have hOn := hO.nc
                      have hOl := hO.sl.len
                      have hol_ := Mur.ofK_len k (L1.take i)
                      rw [List.length_take] at hol_
                      have hdK := hdocK.len
                      by_cases hlt : i < dn
                      · obtain ⟨g_x, o_x, rfl, _⟩ := hdocK.ex (by omega)
                        obtain ⟨x, hx⟩ : ∃ x, L1[i]? = some x := ⟨_, List.getElem?_eq_getElem (by have := hdocK.len; omega)⟩
                        refine wp_seq ?_
                        refine Wk.reg ?_
                        refine Wk.rPure 0 (some 155) (.bool true) rfl rfl (by kernel_rfl) (Wk.boolT (b := decide (((i : Nat) : Int) < ((dn : Nat) : Int))) (decide_eq_true (by omega)) (by kernel_rfl)) ?_
                        refine Wk.rEnd 1 rfl ?_
                        refine Wk.nxt ?_
                        refine wp_seq ?_
                        refine wp_cond_true (by kernel_rfl) ?_
                        refine wp_skip ?_
                        refine Wk.nxt ?_
                        refine wp_seq ?_
                        refine wp_block ?_
                        refine wp_seq ?_
                        refine Wk.reg ?_
                        refine Wk.rPure 0 (some 156) (.int .i64 ((i : Nat) : Int)) rfl rfl (by kernel_rfl) (by kernel_rfl) ?_
                        refine Wk.rPure 1 (some 21) (.int .i64 ((i : Nat) : Int)) rfl rfl (by kernel_rfl) (by kernel_rfl) ?_
                        refine Wk.rEnd 2 rfl ?_
                        refine Wk.nxt ?_
                        refine wp_seq ?_
                        refine Wk.dReg ([]) (by kernel_rfl) ?_
                        intro W43 ch37 sz7
                        have zz42 := ch37.size
                        have sS2 : Wk.Chg ([]) W43 W43 := (Wk.Chg.refl _).more (by simp)
                        refine Wk.dVal 0 (some 157) (.slice (some ⟨g_x, o_x, none⟩) dn dc) rfl rfl (by kernel_rfl) (by kernel_rfl) (by kernel_rfl) (fun _ _ _ h => h) (by kernel_rfl) (fun w' hw' => by kernel_rfl) sS2 ?_
                        refine Wk.dVal 1 (some 158) (.int .i64 ((i : Nat) : Int)) rfl rfl (by kernel_rfl) (by kernel_rfl) (by kernel_rfl) (fun _ _ _ h => h) (by kernel_rfl) (fun w' hw' => by kernel_rfl) sS2 ?_
                        refine Wk.dVal 2 (some 159) (.pointer (some ⟨g_x, o_x + i * 97, none⟩)) rfl rfl (by kernel_rfl) (by kernel_rfl) (by kernel_rfl) (fun _ _ _ h => h) (by kernel_rfl) (fun w' hw' => (Wk.index_sl 50 32 (.tmp 157) (.tmp 158) rfl Tryd.underlying50 97 (by kernel_rfl) g_x o_x dn dc i .i64 (by kernel_rfl) (by kernel_rfl) (by omega))) sS2 ?_
                        refine Wk.dVal 3 (some 160) (.pointer (some ⟨g_x, o_x + i * 97, none⟩)) rfl rfl (by kernel_rfl) (by kernel_rfl) (by kernel_rfl) (fun _ _ _ h => h) (by kernel_rfl) (fun w' hw' => by kernel_rfl) sS2 ?_
                        refine Wk.dVal 4 (some 161) (.agg ((b8s x.k).toArray)) rfl rfl (by kernel_rfl) (by kernel_rfl) (by kernel_rfl) (fun _ _ _ h => h) (by kernel_rfl) (fun w' hw' => (Wk.loadR 30 (.tmp 160) rfl _ Tryd.underlying30 rfl g_x (o_x + i * 97) (by kernel_rfl) (b8s x.k) (by rw [Mur.b8s_length, x.hk]; kernel_rfl) ((Mur.SlA.chg (Mur.SlA.chg hdocK ch37 (fun g off e hl => trivial)) hw' (fun g off e hl => trivial)).key hx))) sS2 ?_
                        refine Wk.dVal 5 (some 162) (.agg ((b8s k).toArray)) rfl rfl (by kernel_rfl) (by kernel_rfl) (by kernel_rfl) (fun _ _ _ h => h) (by kernel_rfl) (fun w' hw' => (Mur.loadAll 30 (.tmp 5) rfl _ Tryd.underlying30 rfl w.heap.size (by kernel_rfl) k 32 hk (by kernel_rfl) 30 (0, 0) (Wk.Chg.hp hw' (Wk.Chg.hp ch37 hkeyK trivial) trivial))) sS2 ?_
                        by_cases hkx : x.k = k
                        · refine Wk.dVal 6 (some 163) (.bool true) rfl rfl (by kernel_rfl) (by kernel_rfl) (by kernel_rfl) (fun _ _ _ h => h) (by kernel_rfl) (fun w' hw' => (Mur.run_eql_yes digT x.k k x.hk hk hkx _ (.tmp 161) (.tmp 162) 30 rfl (by kernel_rfl) (by kernel_rfl))) sS2 ?_
                          refine Wk.dEnd (by kernel_rfl) ?_
                          refine Wk.nxt ?_
                          refine wp_cond_true (by kernel_rfl) ?_
                          refine Wk.reg ?_
                          refine Wk.rPure 0 (some 164) (.slice A2 N c2) rfl rfl (by kernel_rfl) (by kernel_rfl) ?_
                          refine Wk.rPure 1 (some 165) (.slice (some ⟨g_x, o_x, none⟩) dn dc) rfl rfl (by kernel_rfl) (by kernel_rfl) ?_
                          refine Wk.rPure 2 (some 166) (.int .i64 ((i : Nat) : Int)) rfl rfl (by kernel_rfl) (by kernel_rfl) ?_
                          refine Wk.rPure 3 (some 167) (.pointer (some ⟨g_x, o_x + i * 97, none⟩)) rfl rfl (by kernel_rfl) (Wk.index_sl 50 32 (.tmp 165) (.tmp 166) rfl Tryd.underlying50 97 (by kernel_rfl) g_x o_x dn dc i .i64 (by kernel_rfl) (by kernel_rfl) (by omega)) ?_
                          refine Wk.rPure 4 (some 168) (.agg ((Mur.attC x.k x.r x.n x.t).toArray)) rfl rfl (by kernel_rfl) (Wk.loadR 32 (.tmp 167) rfl _ Tryd.underlying32 rfl g_x (o_x + i * 97) (by kernel_rfl) (Mur.attC x.k x.r x.n x.t) (by rw [Mur.attC_length x.hk x.hr x.ht]; kernel_rfl) ((Mur.SlA.chg hdocK ch37 (fun g off e hl => trivial)).elem hx)) ?_
                          refine Wk.rEx 5 (some 169) _ rfl rfl (by kernel_rfl) (Mur.build1 22 32 (.tmp 168) rfl Tryd.underlying22 attI x.k x.r x.t x.n x.hk x.hr x.ht (by kernel_rfl)) ?_
                          rintro _ W44 ⟨rfl, hb8, ch38, sz8⟩
                          have zz43 := ch38.size
                          have ow22 := Mur.OwnA.chg hO ch37 (fun q e _ _ => trivial)
                          have ow23 := Mur.OwnA.chg ow22 ch38 (fun q e _ _ => trivial)
                          refine Wk.rEx 6 (some 170) _ rfl rfl (by kernel_rfl) (Mur.appendA (.tmp 164) (.tmp 169) 22 32 rfl Tryd.underlying22 attI W40.heap.size A2 N c2 (Mur.ofK k (L1.take i)) (some ⟨W43.heap.size, 0, none⟩) 1 1 ([x]) (by kernel_rfl) (by kernel_rfl) ow23 (Mur.slA_box x hb8) (fun h => by cases h) (by omega) (by omega) (N + 1) (by omega) ((Mur.ofK k (L1.take i)) ++ ([x])) rfl) ?_
                          rintro _ W45 ⟨AA7, nn12, rfl, ow24, ch39, ha2⟩
                          have zz44 := ch39.size
                          have hq23 := ow24.nc
                          have hq24 := ow24.cm
                          refine Wk.rPure 7 (some 20) (.slice AA7 (N + 1) nn12) rfl rfl (by kernel_rfl) (by kernel_rfl) ?_
                          refine Wk.rEnd 8 rfl ?_
                          refine Wk.inN ?_
                          refine Wk.nxt ?_
                          refine Wk.reg ?_
                          refine Wk.rPure 0 (some 171) (.int .i64 ((i + 1 : Nat) : Int)) rfl rfl (by kernel_rfl) (Wk.int64 (n := ((i : Nat) : Int) + 1) (z := ((i + 1 : Nat) : Int)) (by omega) (by omega) (by omega) (by kernel_rfl)) ?_
                          refine Wk.rPure 1 (some 154) (.int .i64 ((i + 1 : Nat) : Int)) rfl rfl (by kernel_rfl) (by kernel_rfl) ?_
                          refine Wk.rEnd 2 rfl ?_
                          refine Wk.nxt ?_
                          have kk43 := Wk.Chg.step HK ch37 trivial
                          have kk44 := Wk.Chg.step kk43 ch38 trivial
                          have kk45 := Wk.Chg.step kk44 ch39 (Wk.newOr_blk (fun g hg => by have := hO.lt g hg; omega))
                          refine ⟨_, ?_, i + 1, AA7, N + 1, nn12, rfl, by kernel_rfl, (by omega), (by rw [Mur.take_snoc hx, Mur.ofK_yes hkx]; exact ow24), kk45⟩
                          · omega
                        · refine Wk.dVal 6 (some 163) (.bool false) rfl rfl (by kernel_rfl) (by kernel_rfl) (by kernel_rfl) (fun _ _ _ h => h) (by kernel_rfl) (fun w' hw' => (Mur.run_eql_no digT x.k k x.hk hk hkx _ (.tmp 161) (.tmp 162) 30 rfl (by kernel_rfl) (by kernel_rfl))) sS2 ?_
                          refine Wk.dEnd (by kernel_rfl) ?_
                          refine Wk.nxt ?_
                          refine wp_cond_false (by kernel_rfl) ?_
                          refine wp_skip ?_
                          refine Wk.inN ?_
                          refine Wk.nxt ?_
                          refine Wk.reg ?_
                          refine Wk.rPure 0 (some 171) (.int .i64 ((i + 1 : Nat) : Int)) rfl rfl (by kernel_rfl) (Wk.int64 (n := ((i : Nat) : Int) + 1) (z := ((i + 1 : Nat) : Int)) (by omega) (by omega) (by omega) (by kernel_rfl)) ?_
                          refine Wk.rPure 1 (some 154) (.int .i64 ((i + 1 : Nat) : Int)) rfl rfl (by kernel_rfl) (by kernel_rfl) ?_
                          refine Wk.rEnd 2 rfl ?_
                          refine Wk.nxt ?_
                          have ow25 := Mur.OwnA.chg hO ch37 (fun q e _ _ => trivial)
                          have kk46 := Wk.Chg.step HK ch37 trivial
                          refine ⟨_, ?_, i + 1, A2, N, c2, rfl, by kernel_rfl, (by omega), (by rw [Mur.take_snoc hx, Mur.ofK_no hkx]; exact ow25), kk46⟩
                          · omega
                      · rw [List.take_of_length_le (show L1.length ≤ i by omega)] at hO
                        refine wp_seq ?_
                        refine Wk.reg ?_
                        refine Wk.rPure 0 (some 155) (.bool false) rfl rfl (by kernel_rfl) (Wk.boolF (b := decide (((i : Nat) : Int) < ((dn : Nat) : Int))) (decide_eq_false (by omega)) (by kernel_rfl)) ?_
                        refine Wk.rEnd 1 rfl ?_
                        refine Wk.nxt ?_
                        refine wp_seq ?_
                        refine wp_cond_false (by kernel_rfl) ?_
                        refine wp_exit ?_
                        refine Wk.thX ?_
                        refine Wk.thX ?_
                        refine Wk.inX ?_
                        refine Wk.nxt ?_
                        refine wp_seq ?_
                        refine Wk.reg ?_
                        refine Wk.rPure 0 (some 172) (.pointer (some ⟨g, 0, none⟩)) rfl rfl (by kernel_rfl) (by kernel_rfl) ?_
                        refine Wk.rPure 1 (some 173) (.agg ((b8s k).toArray)) rfl rfl (by kernel_rfl) (Mur.loadAll 30 (.tmp 5) rfl _ Tryd.underlying30 rfl w.heap.size (by kernel_rfl) k 32 hk (by kernel_rfl) 30 (0, 0) hkeyK) ?_
                        refine Wk.rCall 2 (some 174) 31 [.tmp 172, .tmp 173] #[24, 30] [.pointer (some ⟨g, 0, none⟩), .agg ((b8s k).toArray)] rfl rfl (by kernel_rfl) rfl (by kernel_rfl) (by kernel_rfl) ?_
                        refine (Of_any W4.heap.size L1 g F1 k W42 hsetK hk).mono ?_
                        rintro _ W46 ⟨AA8, nn13, nn14, rfl, ow26, ch40⟩
                        have zz45 := ch40.size
                        have hq25 := ow26.nc
                        have hq26 := ow26.cm
                        have hq27 := ow26.sl.len
                        have hq28 : (Mur.ofK k L1).length ≤ 200 := Nat.le_trans (Mur.ofK_len _ _) (Mur.SetF.len hsetK)
                        refine ⟨_, rfl, ?_⟩
                        refine Wk.rPure 3 (some 175) (.slice A2 N c2) rfl rfl (by kernel_rfl) (by kernel_rfl) ?_
                        refine Wk.rCall 4 (some 176) 17 [.tmp 174, .tmp 175] #[22, 22] [.slice AA8 nn13 nn14, .slice A2 N c2] rfl rfl (by kernel_rfl) rfl (by kernel_rfl) (by kernel_rfl) ?_
                        have ow27 := Mur.OwnA.chg hO ch40 (fun q e _ _ => trivial)
                        refine (Same20_any AA8 nn13 nn14 (Mur.ofK k L1) A2 N c2 (Mur.ofK k L1) W46 ow26.sl ow27.sl (by omega)).mono ?_
                        rw [decide_eq_true (rfl : (Mur.ofK k L1) = (Mur.ofK k L1))]
                        rintro _ W47 ⟨rfl, ch41⟩
                        have zz46 := ch41.size
                        refine ⟨_, rfl, ?_⟩
                        refine Wk.rPure 5 (some 177) (.bool true) rfl rfl (by kernel_rfl) (by kernel_rfl) ?_
                        refine Wk.rPure 6 (some 178) (.pointer (some ⟨g, 0, none⟩)) rfl rfl (by kernel_rfl) (by kernel_rfl) ?_
                        refine Wk.rCall 7 (some 179) 18 [.tmp 178, .const (.slice none 0 0)] #[24, 38] [.pointer (some ⟨g, 0, none⟩), .slice none 0 0] rfl rfl (by kernel_rfl) rfl (by kernel_rfl) (by kernel_rfl) ?_
                        have hD40 := Mur.SetF.chg hsetK ch40 (fun s hs => trivial)
                        have hD41 := Mur.SetF.chg hD40 ch41 (fun s hs => trivial)
                        refine (Below_any W4.heap.size L1 g F1 ([]) none 0 0 W47 hD41 (Byt.nil _ none) (by omega)).mono ?_
                        rw [Mur.belowL_nil]
                        rintro _ W48 ⟨AA9, nn15, nn16, rfl, ow28, ch42⟩
                        have zz47 := ch42.size
                        have hq29 := ow28.nc
                        have hq30 := ow28.cm
                        have hq31 := ow28.sl.len
                        have hq32 : L1.length ≤ 200 := Nat.le_trans (Nat.le_refl _) (Mur.SetF.len hD41)
                        refine ⟨_, rfl, ?_⟩
                        refine Wk.rPure 8 (some 180) (.slice DA dn dc) rfl rfl (by kernel_rfl) (by kernel_rfl) ?_
                        refine Wk.rCall 9 (some 181) 17 [.tmp 179, .tmp 180] #[22, 22] [.slice AA9 nn15 nn16, .slice DA dn dc] rfl rfl (by kernel_rfl) rfl (by kernel_rfl) (by kernel_rfl) ?_
                        refine (Same20_any AA9 nn15 nn16 L1 DA dn dc L1 W48 ow28.sl (Mur.SlA.chg (Mur.SlA.chg (Mur.SlA.chg hdocK ch40 (fun g off e hl => trivial)) ch41 (fun g off e hl => trivial)) ch42 (fun g off e hl => trivial)) (by omega)).mono ?_
                        rw [decide_eq_true (rfl : L1 = L1)]
                        rintro _ W49 ⟨rfl, ch43⟩
                        have zz48 := ch43.size
                        refine ⟨_, rfl, ?_⟩
                        refine Wk.rPure 10 (some 182) (.bool true) rfl rfl (by kernel_rfl) (by kernel_rfl) ?_
                        refine Wk.rPure 11 (some 183) (.bool true) rfl rfl (by kernel_rfl) (by kernel_rfl) ?_
                        refine Wk.rCall 12 (some 184) 13 [] #[] [] rfl rfl (by kernel_rfl) rfl (by kernel_rfl) (by kernel_rfl) ?_
                        have kk47 := Wk.Chg.step hchK ch40 trivial
                        have kk48 := Wk.Chg.step kk47 ch41 trivial
                        have kk49 := Wk.Chg.step kk48 ch42 trivial
                        have kk50 := Wk.Chg.step kk49 ch43 trivial
                        refine (known20_any W49 (HV.out.below (Wk.Chg.below0 kk50))).mono ?_
                        rintro _ W50 ⟨rfl, ch44⟩
                        have zz49 := ch44.size
                        refine ⟨_, rfl, ?_⟩
                        refine Wk.rPure 13 (some 185) (.bool true) rfl rfl (by kernel_rfl) (by kernel_rfl) ?_
                        refine Wk.rPure 14 (some 6) (.bool true) rfl rfl (by kernel_rfl) (by kernel_rfl) ?_
                        refine Wk.rEnd 15 rfl ?_
                        refine Wk.nxt ?_
                        refine wp_ret ?_
                        have kk51 := Wk.Chg.step kk50 ch44 trivial
                        refine Wk.ret (.bool true) rfl (by kernel_rfl) ?_
                        exact ⟨rfl, Wk.Chg.below0 kk51⟩
end Go.Proofs.YtfhneademopciaaDoor
