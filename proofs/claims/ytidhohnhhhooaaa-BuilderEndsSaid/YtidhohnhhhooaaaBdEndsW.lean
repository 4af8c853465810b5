/- BuilderEnds, walked. -/
import Derived.Test.YtidhohnhhhooaaaBdCon
import Derived.Test.YtidhohnhhhooaaaBdEnds
namespace Go.Proofs.Ytidhohnhhhooaaa
open Go.RowKit
open Mur (Trn Fct Upd Tls Tolds Ref refTo toldTo trnTo tick outsTo wants tcells)
set_option maxRecDepth 100000
set_option maxHeartbeats 4000000
def EndsYes_F0 (b : Array Value) (u0 : Value) (u1 : Value) (u2 : Value) (u7 : Value) (u8 : Value) (u9 : Value) : Act := ⟨#[u0, u1, u2, b.getD 3 undef, b.getD 4 undef, b.getD 5 undef, b.getD 6 undef, u7, u8, u9, b.getD 10 undef, b.getD 11 undef, b.getD 12 undef, b.getD 13 undef, b.getD 14 undef, b.getD 15 undef, b.getD 16 undef, b.getD 17 undef, b.getD 18 undef, b.getD 19 undef, b.getD 20 undef, b.getD 21 undef, b.getD 22 undef, b.getD 23 undef, b.getD 24 undef, b.getD 25 undef, b.getD 26 undef, b.getD 27 undef, b.getD 28 undef, b.getD 29 undef, b.getD 30 undef, b.getD 31 undef, b.getD 32 undef, b.getD 33 undef, b.getD 34 undef, b.getD 35 undef, b.getD 36 undef, b.getD 37 undef, b.getD 38 undef, b.getD 39 undef, b.getD 40 undef, b.getD 41 undef, b.getD 42 undef, b.getD 43 undef, b.getD 44 undef, b.getD 45 undef, b.getD 46 undef, b.getD 47 undef, b.getD 48 undef, b.getD 49 undef, b.getD 50 undef, b.getD 51 undef, b.getD 52 undef, b.getD 53 undef, b.getD 54 undef, b.getD 55 undef, b.getD 56 undef, b.getD 57 undef, b.getD 58 undef, b.getD 59 undef, b.getD 60 undef, b.getD 61 undef, b.getD 62 undef, b.getD 63 undef, b.getD 64 undef, b.getD 65 undef, b.getD 66 undef, b.getD 67 undef, b.getD 68 undef, b.getD 69 undef, b.getD 70 undef, b.getD 71 undef, b.getD 72 undef, b.getD 73 undef, b.getD 74 undef, b.getD 75 undef, b.getD 76 undef, b.getD 77 undef, b.getD 78 undef, b.getD 79 undef, b.getD 80 undef, b.getD 81 undef, b.getD 82 undef, b.getD 83 undef, b.getD 84 undef, b.getD 85 undef, b.getD 86 undef, b.getD 87 undef, b.getD 88 undef, b.getD 89 undef, b.getD 90 undef, b.getD 91 undef, b.getD 92 undef, b.getD 93 undef, b.getD 94 undef, b.getD 95 undef, b.getD 96 undef, b.getD 97 undef, b.getD 98 undef, b.getD 99 undef, b.getD 100 undef, b.getD 101 undef, b.getD 102 undef, b.getD 103 undef, b.getD 104 undef, b.getD 105 undef, b.getD 106 undef, b.getD 107 undef, b.getD 108 undef, b.getD 109 undef, b.getD 110 undef, b.getD 111 undef, b.getD 112 undef, b.getD 113 undef, b.getD 114 undef, b.getD 115 undef, b.getD 116 undef, b.getD 117 undef, b.getD 118 undef, b.getD 119 undef, b.getD 120 undef, b.getD 121 undef, b.getD 122 undef, b.getD 123 undef, b.getD 124 undef, b.getD 125 undef, b.getD 126 undef, b.getD 127 undef, b.getD 128 undef, b.getD 129 undef, b.getD 130 undef, b.getD 131 undef, b.getD 132 undef, b.getD 133 undef], []⟩
def EndsYes_J9_1 (b : Array Value) (u0 : Value) (u1 : Value) (u2 : Value) (u7 : Value) (u8 : Value) (u9 : Value) (u10 : Value) : Act := ⟨#[u0, u1, u2, b.getD 3 undef, b.getD 4 undef, b.getD 5 undef, b.getD 6 undef, u7, u8, u9, u10, b.getD 11 undef, b.getD 12 undef, b.getD 13 undef, b.getD 14 undef, b.getD 15 undef, b.getD 16 undef, b.getD 17 undef, b.getD 18 undef, b.getD 19 undef, b.getD 20 undef, b.getD 21 undef, b.getD 22 undef, b.getD 23 undef, b.getD 24 undef, b.getD 25 undef, b.getD 26 undef, b.getD 27 undef, b.getD 28 undef, b.getD 29 undef, b.getD 30 undef, b.getD 31 undef, b.getD 32 undef, b.getD 33 undef, b.getD 34 undef, b.getD 35 undef, b.getD 36 undef, b.getD 37 undef, b.getD 38 undef, b.getD 39 undef, b.getD 40 undef, b.getD 41 undef, b.getD 42 undef, b.getD 43 undef, b.getD 44 undef, b.getD 45 undef, b.getD 46 undef, b.getD 47 undef, b.getD 48 undef, b.getD 49 undef, b.getD 50 undef, b.getD 51 undef, b.getD 52 undef, b.getD 53 undef, b.getD 54 undef, b.getD 55 undef, b.getD 56 undef, b.getD 57 undef, b.getD 58 undef, b.getD 59 undef, b.getD 60 undef, b.getD 61 undef, b.getD 62 undef, b.getD 63 undef, b.getD 64 undef, b.getD 65 undef, b.getD 66 undef, b.getD 67 undef, b.getD 68 undef, b.getD 69 undef, b.getD 70 undef, b.getD 71 undef, b.getD 72 undef, b.getD 73 undef, b.getD 74 undef, b.getD 75 undef, b.getD 76 undef, b.getD 77 undef, b.getD 78 undef, b.getD 79 undef, b.getD 80 undef, b.getD 81 undef, b.getD 82 undef, b.getD 83 undef, b.getD 84 undef, b.getD 85 undef, b.getD 86 undef, b.getD 87 undef, b.getD 88 undef, b.getD 89 undef, b.getD 90 undef, b.getD 91 undef, b.getD 92 undef, b.getD 93 undef, b.getD 94 undef, b.getD 95 undef, b.getD 96 undef, b.getD 97 undef, b.getD 98 undef, b.getD 99 undef, b.getD 100 undef, b.getD 101 undef, b.getD 102 undef, b.getD 103 undef, b.getD 104 undef, b.getD 105 undef, b.getD 106 undef, b.getD 107 undef, b.getD 108 undef, b.getD 109 undef, b.getD 110 undef, b.getD 111 undef, b.getD 112 undef, b.getD 113 undef, b.getD 114 undef, b.getD 115 undef, b.getD 116 undef, b.getD 117 undef, b.getD 118 undef, b.getD 119 undef, b.getD 120 undef, b.getD 121 undef, b.getD 122 undef, b.getD 123 undef, b.getD 124 undef, b.getD 125 undef, b.getD 126 undef, b.getD 127 undef, b.getD 128 undef, b.getD 129 undef, b.getD 130 undef, b.getD 131 undef, b.getD 132 undef, b.getD 133 undef], []⟩
def EndsYes_J13_2 (b : Array Value) (u0 : Value) (u1 : Value) (u2 : Value) (u7 : Value) (u8 : Value) (u9 : Value) (u10 : Value) (u11 : Value) : Act := ⟨#[u0, u1, u2, b.getD 3 undef, b.getD 4 undef, b.getD 5 undef, b.getD 6 undef, u7, u8, u9, u10, u11, b.getD 12 undef, b.getD 13 undef, b.getD 14 undef, b.getD 15 undef, b.getD 16 undef, b.getD 17 undef, b.getD 18 undef, b.getD 19 undef, b.getD 20 undef, b.getD 21 undef, b.getD 22 undef, b.getD 23 undef, b.getD 24 undef, b.getD 25 undef, b.getD 26 undef, b.getD 27 undef, b.getD 28 undef, b.getD 29 undef, b.getD 30 undef, b.getD 31 undef, b.getD 32 undef, b.getD 33 undef, b.getD 34 undef, b.getD 35 undef, b.getD 36 undef, b.getD 37 undef, b.getD 38 undef, b.getD 39 undef, b.getD 40 undef, b.getD 41 undef, b.getD 42 undef, b.getD 43 undef, b.getD 44 undef, b.getD 45 undef, b.getD 46 undef, b.getD 47 undef, b.getD 48 undef, b.getD 49 undef, b.getD 50 undef, b.getD 51 undef, b.getD 52 undef, b.getD 53 undef, b.getD 54 undef, b.getD 55 undef, b.getD 56 undef, b.getD 57 undef, b.getD 58 undef, b.getD 59 undef, b.getD 60 undef, b.getD 61 undef, b.getD 62 undef, b.getD 63 undef, b.getD 64 undef, b.getD 65 undef, b.getD 66 undef, b.getD 67 undef, b.getD 68 undef, b.getD 69 undef, b.getD 70 undef, b.getD 71 undef, b.getD 72 undef, b.getD 73 undef, b.getD 74 undef, b.getD 75 undef, b.getD 76 undef, b.getD 77 undef, b.getD 78 undef, b.getD 79 undef, b.getD 80 undef, b.getD 81 undef, b.getD 82 undef, b.getD 83 undef, b.getD 84 undef, b.getD 85 undef, b.getD 86 undef, b.getD 87 undef, b.getD 88 undef, b.getD 89 undef, b.getD 90 undef, b.getD 91 undef, b.getD 92 undef, b.getD 93 undef, b.getD 94 undef, b.getD 95 undef, b.getD 96 undef, b.getD 97 undef, b.getD 98 undef, b.getD 99 undef, b.getD 100 undef, b.getD 101 undef, b.getD 102 undef, b.getD 103 undef, b.getD 104 undef, b.getD 105 undef, b.getD 106 undef, b.getD 107 undef, b.getD 108 undef, b.getD 109 undef, b.getD 110 undef, b.getD 111 undef, b.getD 112 undef, b.getD 113 undef, b.getD 114 undef, b.getD 115 undef, b.getD 116 undef, b.getD 117 undef, b.getD 118 undef, b.getD 119 undef, b.getD 120 undef, b.getD 121 undef, b.getD 122 undef, b.getD 123 undef, b.getD 124 undef, b.getD 125 undef, b.getD 126 undef, b.getD 127 undef, b.getD 128 undef, b.getD 129 undef, b.getD 130 undef, b.getD 131 undef, b.getD 132 undef, b.getD 133 undef], []⟩
def EndsYes_J15_3 (b : Array Value) (u0 : Value) (u1 : Value) (u2 : Value) (u7 : Value) (u8 : Value) (u9 : Value) (u11 : Value) : Act := ⟨#[u0, u1, u2, b.getD 3 undef, b.getD 4 undef, b.getD 5 undef, b.getD 6 undef, u7, u8, u9, b.getD 10 undef, u11, b.getD 12 undef, b.getD 13 undef, b.getD 14 undef, b.getD 15 undef, b.getD 16 undef, b.getD 17 undef, b.getD 18 undef, b.getD 19 undef, b.getD 20 undef, b.getD 21 undef, b.getD 22 undef, b.getD 23 undef, b.getD 24 undef, b.getD 25 undef, b.getD 26 undef, b.getD 27 undef, b.getD 28 undef, b.getD 29 undef, b.getD 30 undef, b.getD 31 undef, b.getD 32 undef, b.getD 33 undef, b.getD 34 undef, b.getD 35 undef, b.getD 36 undef, b.getD 37 undef, b.getD 38 undef, b.getD 39 undef, b.getD 40 undef, b.getD 41 undef, b.getD 42 undef, b.getD 43 undef, b.getD 44 undef, b.getD 45 undef, b.getD 46 undef, b.getD 47 undef, b.getD 48 undef, b.getD 49 undef, b.getD 50 undef, b.getD 51 undef, b.getD 52 undef, b.getD 53 undef, b.getD 54 undef, b.getD 55 undef, b.getD 56 undef, b.getD 57 undef, b.getD 58 undef, b.getD 59 undef, b.getD 60 undef, b.getD 61 undef, b.getD 62 undef, b.getD 63 undef, b.getD 64 undef, b.getD 65 undef, b.getD 66 undef, b.getD 67 undef, b.getD 68 undef, b.getD 69 undef, b.getD 70 undef, b.getD 71 undef, b.getD 72 undef, b.getD 73 undef, b.getD 74 undef, b.getD 75 undef, b.getD 76 undef, b.getD 77 undef, b.getD 78 undef, b.getD 79 undef, b.getD 80 undef, b.getD 81 undef, b.getD 82 undef, b.getD 83 undef, b.getD 84 undef, b.getD 85 undef, b.getD 86 undef, b.getD 87 undef, b.getD 88 undef, b.getD 89 undef, b.getD 90 undef, b.getD 91 undef, b.getD 92 undef, b.getD 93 undef, b.getD 94 undef, b.getD 95 undef, b.getD 96 undef, b.getD 97 undef, b.getD 98 undef, b.getD 99 undef, b.getD 100 undef, b.getD 101 undef, b.getD 102 undef, b.getD 103 undef, b.getD 104 undef, b.getD 105 undef, b.getD 106 undef, b.getD 107 undef, b.getD 108 undef, b.getD 109 undef, b.getD 110 undef, b.getD 111 undef, b.getD 112 undef, b.getD 113 undef, b.getD 114 undef, b.getD 115 undef, b.getD 116 undef, b.getD 117 undef, b.getD 118 undef, b.getD 119 undef, b.getD 120 undef, b.getD 121 undef, b.getD 122 undef, b.getD 123 undef, b.getD 124 undef, b.getD 125 undef, b.getD 126 undef, b.getD 127 undef, b.getD 128 undef, b.getD 129 undef, b.getD 130 undef, b.getD 131 undef, b.getD 132 undef, b.getD 133 undef], []⟩
def EndsYes_J13_4 (b : Array Value) (u0 : Value) (u1 : Value) (u2 : Value) (u7 : Value) (u8 : Value) (u9 : Value) (u10 : Value) (u11 : Value) : Act := ⟨#[u0, u1, u2, b.getD 3 undef, b.getD 4 undef, b.getD 5 undef, b.getD 6 undef, u7, u8, u9, u10, u11, b.getD 12 undef, b.getD 13 undef, b.getD 14 undef, b.getD 15 undef, b.getD 16 undef, b.getD 17 undef, b.getD 18 undef, b.getD 19 undef, b.getD 20 undef, b.getD 21 undef, b.getD 22 undef, b.getD 23 undef, b.getD 24 undef, b.getD 25 undef, b.getD 26 undef, b.getD 27 undef, b.getD 28 undef, b.getD 29 undef, b.getD 30 undef, b.getD 31 undef, b.getD 32 undef, b.getD 33 undef, b.getD 34 undef, b.getD 35 undef, b.getD 36 undef, b.getD 37 undef, b.getD 38 undef, b.getD 39 undef, b.getD 40 undef, b.getD 41 undef, b.getD 42 undef, b.getD 43 undef, b.getD 44 undef, b.getD 45 undef, b.getD 46 undef, b.getD 47 undef, b.getD 48 undef, b.getD 49 undef, b.getD 50 undef, b.getD 51 undef, b.getD 52 undef, b.getD 53 undef, b.getD 54 undef, b.getD 55 undef, b.getD 56 undef, b.getD 57 undef, b.getD 58 undef, b.getD 59 undef, b.getD 60 undef, b.getD 61 undef, b.getD 62 undef, b.getD 63 undef, b.getD 64 undef, b.getD 65 undef, b.getD 66 undef, b.getD 67 undef, b.getD 68 undef, b.getD 69 undef, b.getD 70 undef, b.getD 71 undef, b.getD 72 undef, b.getD 73 undef, b.getD 74 undef, b.getD 75 undef, b.getD 76 undef, b.getD 77 undef, b.getD 78 undef, b.getD 79 undef, b.getD 80 undef, b.getD 81 undef, b.getD 82 undef, b.getD 83 undef, b.getD 84 undef, b.getD 85 undef, b.getD 86 undef, b.getD 87 undef, b.getD 88 undef, b.getD 89 undef, b.getD 90 undef, b.getD 91 undef, b.getD 92 undef, b.getD 93 undef, b.getD 94 undef, b.getD 95 undef, b.getD 96 undef, b.getD 97 undef, b.getD 98 undef, b.getD 99 undef, b.getD 100 undef, b.getD 101 undef, b.getD 102 undef, b.getD 103 undef, b.getD 104 undef, b.getD 105 undef, b.getD 106 undef, b.getD 107 undef, b.getD 108 undef, b.getD 109 undef, b.getD 110 undef, b.getD 111 undef, b.getD 112 undef, b.getD 113 undef, b.getD 114 undef, b.getD 115 undef, b.getD 116 undef, b.getD 117 undef, b.getD 118 undef, b.getD 119 undef, b.getD 120 undef, b.getD 121 undef, b.getD 122 undef, b.getD 123 undef, b.getD 124 undef, b.getD 125 undef, b.getD 126 undef, b.getD 127 undef, b.getD 128 undef, b.getD 129 undef, b.getD 130 undef, b.getD 131 undef, b.getD 132 undef, b.getD 133 undef], []⟩
def EndsYes_J15_5 (b : Array Value) (u0 : Value) (u1 : Value) (u2 : Value) (u7 : Value) (u8 : Value) (u9 : Value) (u11 : Value) : Act := ⟨#[u0, u1, u2, b.getD 3 undef, b.getD 4 undef, b.getD 5 undef, b.getD 6 undef, u7, u8, u9, b.getD 10 undef, u11, b.getD 12 undef, b.getD 13 undef, b.getD 14 undef, b.getD 15 undef, b.getD 16 undef, b.getD 17 undef, b.getD 18 undef, b.getD 19 undef, b.getD 20 undef, b.getD 21 undef, b.getD 22 undef, b.getD 23 undef, b.getD 24 undef, b.getD 25 undef, b.getD 26 undef, b.getD 27 undef, b.getD 28 undef, b.getD 29 undef, b.getD 30 undef, b.getD 31 undef, b.getD 32 undef, b.getD 33 undef, b.getD 34 undef, b.getD 35 undef, b.getD 36 undef, b.getD 37 undef, b.getD 38 undef, b.getD 39 undef, b.getD 40 undef, b.getD 41 undef, b.getD 42 undef, b.getD 43 undef, b.getD 44 undef, b.getD 45 undef, b.getD 46 undef, b.getD 47 undef, b.getD 48 undef, b.getD 49 undef, b.getD 50 undef, b.getD 51 undef, b.getD 52 undef, b.getD 53 undef, b.getD 54 undef, b.getD 55 undef, b.getD 56 undef, b.getD 57 undef, b.getD 58 undef, b.getD 59 undef, b.getD 60 undef, b.getD 61 undef, b.getD 62 undef, b.getD 63 undef, b.getD 64 undef, b.getD 65 undef, b.getD 66 undef, b.getD 67 undef, b.getD 68 undef, b.getD 69 undef, b.getD 70 undef, b.getD 71 undef, b.getD 72 undef, b.getD 73 undef, b.getD 74 undef, b.getD 75 undef, b.getD 76 undef, b.getD 77 undef, b.getD 78 undef, b.getD 79 undef, b.getD 80 undef, b.getD 81 undef, b.getD 82 undef, b.getD 83 undef, b.getD 84 undef, b.getD 85 undef, b.getD 86 undef, b.getD 87 undef, b.getD 88 undef, b.getD 89 undef, b.getD 90 undef, b.getD 91 undef, b.getD 92 undef, b.getD 93 undef, b.getD 94 undef, b.getD 95 undef, b.getD 96 undef, b.getD 97 undef, b.getD 98 undef, b.getD 99 undef, b.getD 100 undef, b.getD 101 undef, b.getD 102 undef, b.getD 103 undef, b.getD 104 undef, b.getD 105 undef, b.getD 106 undef, b.getD 107 undef, b.getD 108 undef, b.getD 109 undef, b.getD 110 undef, b.getD 111 undef, b.getD 112 undef, b.getD 113 undef, b.getD 114 undef, b.getD 115 undef, b.getD 116 undef, b.getD 117 undef, b.getD 118 undef, b.getD 119 undef, b.getD 120 undef, b.getD 121 undef, b.getD 122 undef, b.getD 123 undef, b.getD 124 undef, b.getD 125 undef, b.getD 126 undef, b.getD 127 undef, b.getD 128 undef, b.getD 129 undef, b.getD 130 undef, b.getD 131 undef, b.getD 132 undef, b.getD 133 undef], []⟩
def EndsYes_J13_6 (b : Array Value) (u0 : Value) (u1 : Value) (u2 : Value) (u7 : Value) (u8 : Value) (u9 : Value) (u10 : Value) (u11 : Value) : Act := ⟨#[u0, u1, u2, b.getD 3 undef, b.getD 4 undef, b.getD 5 undef, b.getD 6 undef, u7, u8, u9, u10, u11, b.getD 12 undef, b.getD 13 undef, b.getD 14 undef, b.getD 15 undef, b.getD 16 undef, b.getD 17 undef, b.getD 18 undef, b.getD 19 undef, b.getD 20 undef, b.getD 21 undef, b.getD 22 undef, b.getD 23 undef, b.getD 24 undef, b.getD 25 undef, b.getD 26 undef, b.getD 27 undef, b.getD 28 undef, b.getD 29 undef, b.getD 30 undef, b.getD 31 undef, b.getD 32 undef, b.getD 33 undef, b.getD 34 undef, b.getD 35 undef, b.getD 36 undef, b.getD 37 undef, b.getD 38 undef, b.getD 39 undef, b.getD 40 undef, b.getD 41 undef, b.getD 42 undef, b.getD 43 undef, b.getD 44 undef, b.getD 45 undef, b.getD 46 undef, b.getD 47 undef, b.getD 48 undef, b.getD 49 undef, b.getD 50 undef, b.getD 51 undef, b.getD 52 undef, b.getD 53 undef, b.getD 54 undef, b.getD 55 undef, b.getD 56 undef, b.getD 57 undef, b.getD 58 undef, b.getD 59 undef, b.getD 60 undef, b.getD 61 undef, b.getD 62 undef, b.getD 63 undef, b.getD 64 undef, b.getD 65 undef, b.getD 66 undef, b.getD 67 undef, b.getD 68 undef, b.getD 69 undef, b.getD 70 undef, b.getD 71 undef, b.getD 72 undef, b.getD 73 undef, b.getD 74 undef, b.getD 75 undef, b.getD 76 undef, b.getD 77 undef, b.getD 78 undef, b.getD 79 undef, b.getD 80 undef, b.getD 81 undef, b.getD 82 undef, b.getD 83 undef, b.getD 84 undef, b.getD 85 undef, b.getD 86 undef, b.getD 87 undef, b.getD 88 undef, b.getD 89 undef, b.getD 90 undef, b.getD 91 undef, b.getD 92 undef, b.getD 93 undef, b.getD 94 undef, b.getD 95 undef, b.getD 96 undef, b.getD 97 undef, b.getD 98 undef, b.getD 99 undef, b.getD 100 undef, b.getD 101 undef, b.getD 102 undef, b.getD 103 undef, b.getD 104 undef, b.getD 105 undef, b.getD 106 undef, b.getD 107 undef, b.getD 108 undef, b.getD 109 undef, b.getD 110 undef, b.getD 111 undef, b.getD 112 undef, b.getD 113 undef, b.getD 114 undef, b.getD 115 undef, b.getD 116 undef, b.getD 117 undef, b.getD 118 undef, b.getD 119 undef, b.getD 120 undef, b.getD 121 undef, b.getD 122 undef, b.getD 123 undef, b.getD 124 undef, b.getD 125 undef, b.getD 126 undef, b.getD 127 undef, b.getD 128 undef, b.getD 129 undef, b.getD 130 undef, b.getD 131 undef, b.getD 132 undef, b.getD 133 undef], []⟩
def EndsYes_J15_7 (b : Array Value) (u0 : Value) (u1 : Value) (u2 : Value) (u7 : Value) (u8 : Value) (u9 : Value) (u11 : Value) : Act := ⟨#[u0, u1, u2, b.getD 3 undef, b.getD 4 undef, b.getD 5 undef, b.getD 6 undef, u7, u8, u9, b.getD 10 undef, u11, b.getD 12 undef, b.getD 13 undef, b.getD 14 undef, b.getD 15 undef, b.getD 16 undef, b.getD 17 undef, b.getD 18 undef, b.getD 19 undef, b.getD 20 undef, b.getD 21 undef, b.getD 22 undef, b.getD 23 undef, b.getD 24 undef, b.getD 25 undef, b.getD 26 undef, b.getD 27 undef, b.getD 28 undef, b.getD 29 undef, b.getD 30 undef, b.getD 31 undef, b.getD 32 undef, b.getD 33 undef, b.getD 34 undef, b.getD 35 undef, b.getD 36 undef, b.getD 37 undef, b.getD 38 undef, b.getD 39 undef, b.getD 40 undef, b.getD 41 undef, b.getD 42 undef, b.getD 43 undef, b.getD 44 undef, b.getD 45 undef, b.getD 46 undef, b.getD 47 undef, b.getD 48 undef, b.getD 49 undef, b.getD 50 undef, b.getD 51 undef, b.getD 52 undef, b.getD 53 undef, b.getD 54 undef, b.getD 55 undef, b.getD 56 undef, b.getD 57 undef, b.getD 58 undef, b.getD 59 undef, b.getD 60 undef, b.getD 61 undef, b.getD 62 undef, b.getD 63 undef, b.getD 64 undef, b.getD 65 undef, b.getD 66 undef, b.getD 67 undef, b.getD 68 undef, b.getD 69 undef, b.getD 70 undef, b.getD 71 undef, b.getD 72 undef, b.getD 73 undef, b.getD 74 undef, b.getD 75 undef, b.getD 76 undef, b.getD 77 undef, b.getD 78 undef, b.getD 79 undef, b.getD 80 undef, b.getD 81 undef, b.getD 82 undef, b.getD 83 undef, b.getD 84 undef, b.getD 85 undef, b.getD 86 undef, b.getD 87 undef, b.getD 88 undef, b.getD 89 undef, b.getD 90 undef, b.getD 91 undef, b.getD 92 undef, b.getD 93 undef, b.getD 94 undef, b.getD 95 undef, b.getD 96 undef, b.getD 97 undef, b.getD 98 undef, b.getD 99 undef, b.getD 100 undef, b.getD 101 undef, b.getD 102 undef, b.getD 103 undef, b.getD 104 undef, b.getD 105 undef, b.getD 106 undef, b.getD 107 undef, b.getD 108 undef, b.getD 109 undef, b.getD 110 undef, b.getD 111 undef, b.getD 112 undef, b.getD 113 undef, b.getD 114 undef, b.getD 115 undef, b.getD 116 undef, b.getD 117 undef, b.getD 118 undef, b.getD 119 undef, b.getD 120 undef, b.getD 121 undef, b.getD 122 undef, b.getD 123 undef, b.getD 124 undef, b.getD 125 undef, b.getD 126 undef, b.getD 127 undef, b.getD 128 undef, b.getD 129 undef, b.getD 130 undef, b.getD 131 undef, b.getD 132 undef, b.getD 133 undef], []⟩
def EndsYes_J13_8 (b : Array Value) (u0 : Value) (u1 : Value) (u2 : Value) (u7 : Value) (u8 : Value) (u9 : Value) (u10 : Value) (u11 : Value) : Act := ⟨#[u0, u1, u2, b.getD 3 undef, b.getD 4 undef, b.getD 5 undef, b.getD 6 undef, u7, u8, u9, u10, u11, b.getD 12 undef, b.getD 13 undef, b.getD 14 undef, b.getD 15 undef, b.getD 16 undef, b.getD 17 undef, b.getD 18 undef, b.getD 19 undef, b.getD 20 undef, b.getD 21 undef, b.getD 22 undef, b.getD 23 undef, b.getD 24 undef, b.getD 25 undef, b.getD 26 undef, b.getD 27 undef, b.getD 28 undef, b.getD 29 undef, b.getD 30 undef, b.getD 31 undef, b.getD 32 undef, b.getD 33 undef, b.getD 34 undef, b.getD 35 undef, b.getD 36 undef, b.getD 37 undef, b.getD 38 undef, b.getD 39 undef, b.getD 40 undef, b.getD 41 undef, b.getD 42 undef, b.getD 43 undef, b.getD 44 undef, b.getD 45 undef, b.getD 46 undef, b.getD 47 undef, b.getD 48 undef, b.getD 49 undef, b.getD 50 undef, b.getD 51 undef, b.getD 52 undef, b.getD 53 undef, b.getD 54 undef, b.getD 55 undef, b.getD 56 undef, b.getD 57 undef, b.getD 58 undef, b.getD 59 undef, b.getD 60 undef, b.getD 61 undef, b.getD 62 undef, b.getD 63 undef, b.getD 64 undef, b.getD 65 undef, b.getD 66 undef, b.getD 67 undef, b.getD 68 undef, b.getD 69 undef, b.getD 70 undef, b.getD 71 undef, b.getD 72 undef, b.getD 73 undef, b.getD 74 undef, b.getD 75 undef, b.getD 76 undef, b.getD 77 undef, b.getD 78 undef, b.getD 79 undef, b.getD 80 undef, b.getD 81 undef, b.getD 82 undef, b.getD 83 undef, b.getD 84 undef, b.getD 85 undef, b.getD 86 undef, b.getD 87 undef, b.getD 88 undef, b.getD 89 undef, b.getD 90 undef, b.getD 91 undef, b.getD 92 undef, b.getD 93 undef, b.getD 94 undef, b.getD 95 undef, b.getD 96 undef, b.getD 97 undef, b.getD 98 undef, b.getD 99 undef, b.getD 100 undef, b.getD 101 undef, b.getD 102 undef, b.getD 103 undef, b.getD 104 undef, b.getD 105 undef, b.getD 106 undef, b.getD 107 undef, b.getD 108 undef, b.getD 109 undef, b.getD 110 undef, b.getD 111 undef, b.getD 112 undef, b.getD 113 undef, b.getD 114 undef, b.getD 115 undef, b.getD 116 undef, b.getD 117 undef, b.getD 118 undef, b.getD 119 undef, b.getD 120 undef, b.getD 121 undef, b.getD 122 undef, b.getD 123 undef, b.getD 124 undef, b.getD 125 undef, b.getD 126 undef, b.getD 127 undef, b.getD 128 undef, b.getD 129 undef, b.getD 130 undef, b.getD 131 undef, b.getD 132 undef, b.getD 133 undef], []⟩
def EndsYes_J15_9 (b : Array Value) (u0 : Value) (u1 : Value) (u2 : Value) (u7 : Value) (u8 : Value) (u9 : Value) (u11 : Value) : Act := ⟨#[u0, u1, u2, b.getD 3 undef, b.getD 4 undef, b.getD 5 undef, b.getD 6 undef, u7, u8, u9, b.getD 10 undef, u11, b.getD 12 undef, b.getD 13 undef, b.getD 14 undef, b.getD 15 undef, b.getD 16 undef, b.getD 17 undef, b.getD 18 undef, b.getD 19 undef, b.getD 20 undef, b.getD 21 undef, b.getD 22 undef, b.getD 23 undef, b.getD 24 undef, b.getD 25 undef, b.getD 26 undef, b.getD 27 undef, b.getD 28 undef, b.getD 29 undef, b.getD 30 undef, b.getD 31 undef, b.getD 32 undef, b.getD 33 undef, b.getD 34 undef, b.getD 35 undef, b.getD 36 undef, b.getD 37 undef, b.getD 38 undef, b.getD 39 undef, b.getD 40 undef, b.getD 41 undef, b.getD 42 undef, b.getD 43 undef, b.getD 44 undef, b.getD 45 undef, b.getD 46 undef, b.getD 47 undef, b.getD 48 undef, b.getD 49 undef, b.getD 50 undef, b.getD 51 undef, b.getD 52 undef, b.getD 53 undef, b.getD 54 undef, b.getD 55 undef, b.getD 56 undef, b.getD 57 undef, b.getD 58 undef, b.getD 59 undef, b.getD 60 undef, b.getD 61 undef, b.getD 62 undef, b.getD 63 undef, b.getD 64 undef, b.getD 65 undef, b.getD 66 undef, b.getD 67 undef, b.getD 68 undef, b.getD 69 undef, b.getD 70 undef, b.getD 71 undef, b.getD 72 undef, b.getD 73 undef, b.getD 74 undef, b.getD 75 undef, b.getD 76 undef, b.getD 77 undef, b.getD 78 undef, b.getD 79 undef, b.getD 80 undef, b.getD 81 undef, b.getD 82 undef, b.getD 83 undef, b.getD 84 undef, b.getD 85 undef, b.getD 86 undef, b.getD 87 undef, b.getD 88 undef, b.getD 89 undef, b.getD 90 undef, b.getD 91 undef, b.getD 92 undef, b.getD 93 undef, b.getD 94 undef, b.getD 95 undef, b.getD 96 undef, b.getD 97 undef, b.getD 98 undef, b.getD 99 undef, b.getD 100 undef, b.getD 101 undef, b.getD 102 undef, b.getD 103 undef, b.getD 104 undef, b.getD 105 undef, b.getD 106 undef, b.getD 107 undef, b.getD 108 undef, b.getD 109 undef, b.getD 110 undef, b.getD 111 undef, b.getD 112 undef, b.getD 113 undef, b.getD 114 undef, b.getD 115 undef, b.getD 116 undef, b.getD 117 undef, b.getD 118 undef, b.getD 119 undef, b.getD 120 undef, b.getD 121 undef, b.getD 122 undef, b.getD 123 undef, b.getD 124 undef, b.getD 125 undef, b.getD 126 undef, b.getD 127 undef, b.getD 128 undef, b.getD 129 undef, b.getD 130 undef, b.getD 131 undef, b.getD 132 undef, b.getD 133 undef], []⟩
def EndsYes_J13_10 (b : Array Value) (u0 : Value) (u1 : Value) (u2 : Value) (u7 : Value) (u8 : Value) (u9 : Value) (u10 : Value) (u11 : Value) : Act := ⟨#[u0, u1, u2, b.getD 3 undef, b.getD 4 undef, b.getD 5 undef, b.getD 6 undef, u7, u8, u9, u10, u11, b.getD 12 undef, b.getD 13 undef, b.getD 14 undef, b.getD 15 undef, b.getD 16 undef, b.getD 17 undef, b.getD 18 undef, b.getD 19 undef, b.getD 20 undef, b.getD 21 undef, b.getD 22 undef, b.getD 23 undef, b.getD 24 undef, b.getD 25 undef, b.getD 26 undef, b.getD 27 undef, b.getD 28 undef, b.getD 29 undef, b.getD 30 undef, b.getD 31 undef, b.getD 32 undef, b.getD 33 undef, b.getD 34 undef, b.getD 35 undef, b.getD 36 undef, b.getD 37 undef, b.getD 38 undef, b.getD 39 undef, b.getD 40 undef, b.getD 41 undef, b.getD 42 undef, b.getD 43 undef, b.getD 44 undef, b.getD 45 undef, b.getD 46 undef, b.getD 47 undef, b.getD 48 undef, b.getD 49 undef, b.getD 50 undef, b.getD 51 undef, b.getD 52 undef, b.getD 53 undef, b.getD 54 undef, b.getD 55 undef, b.getD 56 undef, b.getD 57 undef, b.getD 58 undef, b.getD 59 undef, b.getD 60 undef, b.getD 61 undef, b.getD 62 undef, b.getD 63 undef, b.getD 64 undef, b.getD 65 undef, b.getD 66 undef, b.getD 67 undef, b.getD 68 undef, b.getD 69 undef, b.getD 70 undef, b.getD 71 undef, b.getD 72 undef, b.getD 73 undef, b.getD 74 undef, b.getD 75 undef, b.getD 76 undef, b.getD 77 undef, b.getD 78 undef, b.getD 79 undef, b.getD 80 undef, b.getD 81 undef, b.getD 82 undef, b.getD 83 undef, b.getD 84 undef, b.getD 85 undef, b.getD 86 undef, b.getD 87 undef, b.getD 88 undef, b.getD 89 undef, b.getD 90 undef, b.getD 91 undef, b.getD 92 undef, b.getD 93 undef, b.getD 94 undef, b.getD 95 undef, b.getD 96 undef, b.getD 97 undef, b.getD 98 undef, b.getD 99 undef, b.getD 100 undef, b.getD 101 undef, b.getD 102 undef, b.getD 103 undef, b.getD 104 undef, b.getD 105 undef, b.getD 106 undef, b.getD 107 undef, b.getD 108 undef, b.getD 109 undef, b.getD 110 undef, b.getD 111 undef, b.getD 112 undef, b.getD 113 undef, b.getD 114 undef, b.getD 115 undef, b.getD 116 undef, b.getD 117 undef, b.getD 118 undef, b.getD 119 undef, b.getD 120 undef, b.getD 121 undef, b.getD 122 undef, b.getD 123 undef, b.getD 124 undef, b.getD 125 undef, b.getD 126 undef, b.getD 127 undef, b.getD 128 undef, b.getD 129 undef, b.getD 130 undef, b.getD 131 undef, b.getD 132 undef, b.getD 133 undef], []⟩
def EndsYes_J15_11 (b : Array Value) (u0 : Value) (u1 : Value) (u2 : Value) (u7 : Value) (u8 : Value) (u9 : Value) (u11 : Value) : Act := ⟨#[u0, u1, u2, b.getD 3 undef, b.getD 4 undef, b.getD 5 undef, b.getD 6 undef, u7, u8, u9, b.getD 10 undef, u11, b.getD 12 undef, b.getD 13 undef, b.getD 14 undef, b.getD 15 undef, b.getD 16 undef, b.getD 17 undef, b.getD 18 undef, b.getD 19 undef, b.getD 20 undef, b.getD 21 undef, b.getD 22 undef, b.getD 23 undef, b.getD 24 undef, b.getD 25 undef, b.getD 26 undef, b.getD 27 undef, b.getD 28 undef, b.getD 29 undef, b.getD 30 undef, b.getD 31 undef, b.getD 32 undef, b.getD 33 undef, b.getD 34 undef, b.getD 35 undef, b.getD 36 undef, b.getD 37 undef, b.getD 38 undef, b.getD 39 undef, b.getD 40 undef, b.getD 41 undef, b.getD 42 undef, b.getD 43 undef, b.getD 44 undef, b.getD 45 undef, b.getD 46 undef, b.getD 47 undef, b.getD 48 undef, b.getD 49 undef, b.getD 50 undef, b.getD 51 undef, b.getD 52 undef, b.getD 53 undef, b.getD 54 undef, b.getD 55 undef, b.getD 56 undef, b.getD 57 undef, b.getD 58 undef, b.getD 59 undef, b.getD 60 undef, b.getD 61 undef, b.getD 62 undef, b.getD 63 undef, b.getD 64 undef, b.getD 65 undef, b.getD 66 undef, b.getD 67 undef, b.getD 68 undef, b.getD 69 undef, b.getD 70 undef, b.getD 71 undef, b.getD 72 undef, b.getD 73 undef, b.getD 74 undef, b.getD 75 undef, b.getD 76 undef, b.getD 77 undef, b.getD 78 undef, b.getD 79 undef, b.getD 80 undef, b.getD 81 undef, b.getD 82 undef, b.getD 83 undef, b.getD 84 undef, b.getD 85 undef, b.getD 86 undef, b.getD 87 undef, b.getD 88 undef, b.getD 89 undef, b.getD 90 undef, b.getD 91 undef, b.getD 92 undef, b.getD 93 undef, b.getD 94 undef, b.getD 95 undef, b.getD 96 undef, b.getD 97 undef, b.getD 98 undef, b.getD 99 undef, b.getD 100 undef, b.getD 101 undef, b.getD 102 undef, b.getD 103 undef, b.getD 104 undef, b.getD 105 undef, b.getD 106 undef, b.getD 107 undef, b.getD 108 undef, b.getD 109 undef, b.getD 110 undef, b.getD 111 undef, b.getD 112 undef, b.getD 113 undef, b.getD 114 undef, b.getD 115 undef, b.getD 116 undef, b.getD 117 undef, b.getD 118 undef, b.getD 119 undef, b.getD 120 undef, b.getD 121 undef, b.getD 122 undef, b.getD 123 undef, b.getD 124 undef, b.getD 125 undef, b.getD 126 undef, b.getD 127 undef, b.getD 128 undef, b.getD 129 undef, b.getD 130 undef, b.getD 131 undef, b.getD 132 undef, b.getD 133 undef], []⟩
def EndsYes_J13_12 (b : Array Value) (u0 : Value) (u1 : Value) (u2 : Value) (u7 : Value) (u8 : Value) (u9 : Value) (u10 : Value) (u11 : Value) : Act := ⟨#[u0, u1, u2, b.getD 3 undef, b.getD 4 undef, b.getD 5 undef, b.getD 6 undef, u7, u8, u9, u10, u11, b.getD 12 undef, b.getD 13 undef, b.getD 14 undef, b.getD 15 undef, b.getD 16 undef, b.getD 17 undef, b.getD 18 undef, b.getD 19 undef, b.getD 20 undef, b.getD 21 undef, b.getD 22 undef, b.getD 23 undef, b.getD 24 undef, b.getD 25 undef, b.getD 26 undef, b.getD 27 undef, b.getD 28 undef, b.getD 29 undef, b.getD 30 undef, b.getD 31 undef, b.getD 32 undef, b.getD 33 undef, b.getD 34 undef, b.getD 35 undef, b.getD 36 undef, b.getD 37 undef, b.getD 38 undef, b.getD 39 undef, b.getD 40 undef, b.getD 41 undef, b.getD 42 undef, b.getD 43 undef, b.getD 44 undef, b.getD 45 undef, b.getD 46 undef, b.getD 47 undef, b.getD 48 undef, b.getD 49 undef, b.getD 50 undef, b.getD 51 undef, b.getD 52 undef, b.getD 53 undef, b.getD 54 undef, b.getD 55 undef, b.getD 56 undef, b.getD 57 undef, b.getD 58 undef, b.getD 59 undef, b.getD 60 undef, b.getD 61 undef, b.getD 62 undef, b.getD 63 undef, b.getD 64 undef, b.getD 65 undef, b.getD 66 undef, b.getD 67 undef, b.getD 68 undef, b.getD 69 undef, b.getD 70 undef, b.getD 71 undef, b.getD 72 undef, b.getD 73 undef, b.getD 74 undef, b.getD 75 undef, b.getD 76 undef, b.getD 77 undef, b.getD 78 undef, b.getD 79 undef, b.getD 80 undef, b.getD 81 undef, b.getD 82 undef, b.getD 83 undef, b.getD 84 undef, b.getD 85 undef, b.getD 86 undef, b.getD 87 undef, b.getD 88 undef, b.getD 89 undef, b.getD 90 undef, b.getD 91 undef, b.getD 92 undef, b.getD 93 undef, b.getD 94 undef, b.getD 95 undef, b.getD 96 undef, b.getD 97 undef, b.getD 98 undef, b.getD 99 undef, b.getD 100 undef, b.getD 101 undef, b.getD 102 undef, b.getD 103 undef, b.getD 104 undef, b.getD 105 undef, b.getD 106 undef, b.getD 107 undef, b.getD 108 undef, b.getD 109 undef, b.getD 110 undef, b.getD 111 undef, b.getD 112 undef, b.getD 113 undef, b.getD 114 undef, b.getD 115 undef, b.getD 116 undef, b.getD 117 undef, b.getD 118 undef, b.getD 119 undef, b.getD 120 undef, b.getD 121 undef, b.getD 122 undef, b.getD 123 undef, b.getD 124 undef, b.getD 125 undef, b.getD 126 undef, b.getD 127 undef, b.getD 128 undef, b.getD 129 undef, b.getD 130 undef, b.getD 131 undef, b.getD 132 undef, b.getD 133 undef], []⟩
def EndsYes_J15_13 (b : Array Value) (u0 : Value) (u1 : Value) (u2 : Value) (u7 : Value) (u8 : Value) (u9 : Value) (u11 : Value) : Act := ⟨#[u0, u1, u2, b.getD 3 undef, b.getD 4 undef, b.getD 5 undef, b.getD 6 undef, u7, u8, u9, b.getD 10 undef, u11, b.getD 12 undef, b.getD 13 undef, b.getD 14 undef, b.getD 15 undef, b.getD 16 undef, b.getD 17 undef, b.getD 18 undef, b.getD 19 undef, b.getD 20 undef, b.getD 21 undef, b.getD 22 undef, b.getD 23 undef, b.getD 24 undef, b.getD 25 undef, b.getD 26 undef, b.getD 27 undef, b.getD 28 undef, b.getD 29 undef, b.getD 30 undef, b.getD 31 undef, b.getD 32 undef, b.getD 33 undef, b.getD 34 undef, b.getD 35 undef, b.getD 36 undef, b.getD 37 undef, b.getD 38 undef, b.getD 39 undef, b.getD 40 undef, b.getD 41 undef, b.getD 42 undef, b.getD 43 undef, b.getD 44 undef, b.getD 45 undef, b.getD 46 undef, b.getD 47 undef, b.getD 48 undef, b.getD 49 undef, b.getD 50 undef, b.getD 51 undef, b.getD 52 undef, b.getD 53 undef, b.getD 54 undef, b.getD 55 undef, b.getD 56 undef, b.getD 57 undef, b.getD 58 undef, b.getD 59 undef, b.getD 60 undef, b.getD 61 undef, b.getD 62 undef, b.getD 63 undef, b.getD 64 undef, b.getD 65 undef, b.getD 66 undef, b.getD 67 undef, b.getD 68 undef, b.getD 69 undef, b.getD 70 undef, b.getD 71 undef, b.getD 72 undef, b.getD 73 undef, b.getD 74 undef, b.getD 75 undef, b.getD 76 undef, b.getD 77 undef, b.getD 78 undef, b.getD 79 undef, b.getD 80 undef, b.getD 81 undef, b.getD 82 undef, b.getD 83 undef, b.getD 84 undef, b.getD 85 undef, b.getD 86 undef, b.getD 87 undef, b.getD 88 undef, b.getD 89 undef, b.getD 90 undef, b.getD 91 undef, b.getD 92 undef, b.getD 93 undef, b.getD 94 undef, b.getD 95 undef, b.getD 96 undef, b.getD 97 undef, b.getD 98 undef, b.getD 99 undef, b.getD 100 undef, b.getD 101 undef, b.getD 102 undef, b.getD 103 undef, b.getD 104 undef, b.getD 105 undef, b.getD 106 undef, b.getD 107 undef, b.getD 108 undef, b.getD 109 undef, b.getD 110 undef, b.getD 111 undef, b.getD 112 undef, b.getD 113 undef, b.getD 114 undef, b.getD 115 undef, b.getD 116 undef, b.getD 117 undef, b.getD 118 undef, b.getD 119 undef, b.getD 120 undef, b.getD 121 undef, b.getD 122 undef, b.getD 123 undef, b.getD 124 undef, b.getD 125 undef, b.getD 126 undef, b.getD 127 undef, b.getD 128 undef, b.getD 129 undef, b.getD 130 undef, b.getD 131 undef, b.getD 132 undef, b.getD 133 undef], []⟩
theorem facts_at {w : World} {g off j : Nat} {L : List Fct} {f : Fct} (hc : w.rangeAt g off (L.flatMap Fct.cells)) (hx : L[j]? = some f) : w.rangeAt g (off + j * 8) f.cells := by
  have key : ∀ (L : List Fct) (j : Nat), L[j]? = some f → ∀ i v, f.cells[i]? = some v → (L.flatMap Fct.cells)[j * 8 + i]? = some v := by
    intro L
    induction L with
    | nil => intro j hj; simp at hj
    | cons p L ih =>
      intro j hj i v hi
      rw [List.flatMap_cons]
      have hl : (Fct.cells p).length = 8 := rfl
      have hil : i < f.cells.length := (List.getElem?_eq_some_iff.1 hi).1
      have h8 : f.cells.length = 8 := rfl
      rcases j with _ | j
      · obtain rfl : p = f := by simpa using hj
        rw [List.getElem?_append_left (by omega), Nat.zero_mul, Nat.zero_add]
        exact hi
      · rw [List.getElem?_append_right (by omega), hl, show (j + 1) * 8 + i - 8 = j * 8 + i by omega]
        exact ih j (by simpa using hj) i v hi
  intro i v hi
  rw [Nat.add_assoc]
  exact hc _ _ (key L j hx i v hi)
theorem ends_fin {most budget : Int} {k : Nat} {t : Trn} {ran : Int} (h : Mur.EndsInv most budget k t ran) (h4 : ¬ t.state = 4) (hk : most + budget + 1 < (k : Int)) (now : Int) : (t.Step now ⟨false, false, false, false, false, false, true, false⟩).2 = 4 := by
  have hst := h.st
  have hb := h.ok.budget
  have hm := h.ok.most
  rw [h.eb] at hb
  rw [h.em] at hm
  have h1 : t.state ≠ 1 := fun h1 => by have := h.s1 h1; omega
  have h2 : t.state ≠ 2 := fun h2 => by have := h.s2 h2; omega
  have h3 : t.state = 3 := by omega
  have hs : (t.start now).state = 3 := by unfold Trn.start; split <;> exact h3
  unfold Trn.Step
  rw [if_neg (by omega), if_neg h4]
  simp [Trn.stp, hs]
theorem ends_yes (most budget : Int) (L : List Fct) (A : Option Addr) (n c : Nat) (w : World) (hl : Wk.Sl w A n 8 (L.flatMap Fct.cells)) (hl1 : L.length = n) (hn : n ≤ 9223372036854775807) (hm : 0 ≤ most ∧ most ≤ 1000000) (hb : 0 ≤ budget ∧ budget ≤ 1000000) :
    Calls Try.prog 4 #[.int .i64 most, .int .i64 budget, .slice A n c] w fun e w' => e = .returned (.bool true) ∧ Below w.heap.size w w' := by
  have HL := Go.Lib.hid hl
  clear hl
  obtain ⟨hm1, hm2⟩ := hm
  obtain ⟨hb1, hb2⟩ := hb
  refine calls_of_wp Try.func4 rfl ?_
  refine wp_seq ?_
  refine Wk.reg ?_
  refine Wk.rPure 0 (some 6) (.bool false) rfl rfl (by kernel_rfl) (by kernel_rfl) ?_
  refine Wk.rEnd 1 rfl ?_
  refine Wk.nxt ?_
  refine wp_seq ?_
  refine Wk.reg ?_
  refine Wk.rPure 0 (some 13) (.int .i64 most) rfl rfl (by kernel_rfl) (by kernel_rfl) ?_
  refine Wk.rPure 1 (some 14) (.int .i64 budget) rfl rfl (by kernel_rfl) (by kernel_rfl) ?_
  refine Wk.rCall 2 (some 15) 7 [.tmp 13, .tmp 14] #[3, 3] [.int .i64 most, .int .i64 budget] rfl rfl (by kernel_rfl) rfl (by kernel_rfl) (by kernel_rfl) ?_
  refine (New_law most budget w (by omega) (by omega) (by omega) (by omega)).mono ?_
  rintro _ W1 ⟨rfl, hb1, ch1, sz1⟩
  have zz1 := ch1.size
  refine ⟨_, rfl, ?_⟩
  refine Wk.rPure 3 (some 7) (.pointer (some ⟨w.heap.size, 0, none⟩)) rfl rfl (by kernel_rfl) (by kernel_rfl) ?_
  refine Wk.rEnd 4 rfl ?_
  refine Wk.nxt ?_
  refine wp_seq ?_
  refine wp_seq ?_
  refine Wk.reg ?_
  refine Wk.rPure 0 (some 16) (.pointer (some ⟨w.heap.size, 0, none⟩)) rfl rfl (by kernel_rfl) (by kernel_rfl) ?_
  refine Wk.rPure 1 (some 17) (.bool false) rfl rfl (by kernel_rfl) (by kernel_rfl) ?_
  refine Wk.rPure 2 (some 18) (.bool false) rfl rfl (by kernel_rfl) (by kernel_rfl) ?_
  refine Wk.rPure 3 (some 19) (.int .i64 most) rfl rfl (by kernel_rfl) (by kernel_rfl) ?_
  by_cases hx1 : most > (300 : Int)
  · refine Wk.rPure 4 (some 20) (.bool true) rfl rfl (by kernel_rfl) (Wk.boolT (b := decide (most > (300 : Int))) (decide_eq_true (by first | exact hx1 | omega)) (by kernel_rfl)) ?_
    refine Wk.rPure 5 (some 21) (.bool true) rfl rfl (by kernel_rfl) (by kernel_rfl) ?_
    refine Wk.rPure 6 (some 22) (.bool true) rfl rfl (by kernel_rfl) (by kernel_rfl) ?_
    refine Wk.rPass 7 (some 23) rfl rfl (by kernel_rfl) ?_
    refine Wk.rPass 8 (some 24) rfl rfl (by kernel_rfl) ?_
    refine Wk.rPure 9 (some 25) (.bool true) rfl rfl (by kernel_rfl) (by kernel_rfl) ?_
    refine Wk.rPure 10 (some 26) (.bool true) rfl rfl (by kernel_rfl) (by kernel_rfl) ?_
    refine Wk.rPass 11 (some 27) rfl rfl (by kernel_rfl) ?_
    refine Wk.rPass 12 (some 28) rfl rfl (by kernel_rfl) ?_
    refine Wk.rPass 13 (some 29) rfl rfl (by kernel_rfl) ?_
    refine Wk.rPure 14 (some 30) (.bool true) rfl rfl (by kernel_rfl) (by kernel_rfl) ?_
    refine Wk.rEnd 15 rfl ?_
    refine Wk.nxt ?_
    refine wp_cond_true (by kernel_rfl) ?_
    refine wp_seq ?_
    refine Wk.reg ?_
    refine Wk.rCall 0 (some 31) 8 [] #[] [] rfl rfl (by kernel_rfl) rfl (by kernel_rfl) (by kernel_rfl) ?_
    refine (known_any W1).mono ?_
    rintro _ W2 ⟨rfl, hB1⟩
    have ch2 := Wk.Chg.ofBelow hB1
    have zz2 := ch2.size
    refine ⟨_, rfl, ?_⟩
    refine Wk.rPure 1 (some 6) (.bool true) rfl rfl (by kernel_rfl) (by kernel_rfl) ?_
    refine Wk.rEnd 2 rfl ?_
    refine Wk.nxt ?_
    refine wp_ret ?_
    refine Wk.thR ?_
    have kk1 : Wk.Chg [] w W1 := Wk.Chg.step ((Wk.Chg.refl _).more (by simp)) ch1 trivial
    have kk2 := Wk.Chg.step kk1 ch2 trivial
    refine Wk.ret (.bool true) rfl (by kernel_rfl) ?_
    exact ⟨rfl, Wk.Chg.below0 kk2⟩
  · refine Wk.rPure 4 (some 20) (.bool false) rfl rfl (by kernel_rfl) (Wk.boolF (b := decide (most > (300 : Int))) (decide_eq_false (by first | exact hx1 | omega)) (by kernel_rfl)) ?_
    refine Wk.rPure 5 (some 21) (.bool false) rfl rfl (by kernel_rfl) (by kernel_rfl) ?_
    refine Wk.rPure 6 (some 22) (.bool false) rfl rfl (by kernel_rfl) (by kernel_rfl) ?_
    refine Wk.rPure 7 (some 23) (.int .i64 budget) rfl rfl (by kernel_rfl) (by kernel_rfl) ?_
    by_cases hx2 : budget > (300 : Int)
    · refine Wk.rPure 8 (some 24) (.bool true) rfl rfl (by kernel_rfl) (Wk.boolT (b := decide (budget > (300 : Int))) (decide_eq_true (by first | exact hx2 | omega)) (by kernel_rfl)) ?_
      refine Wk.rPure 9 (some 25) (.bool true) rfl rfl (by kernel_rfl) (by kernel_rfl) ?_
      refine Wk.rPure 10 (some 26) (.bool true) rfl rfl (by kernel_rfl) (by kernel_rfl) ?_
      refine Wk.rPass 11 (some 27) rfl rfl (by kernel_rfl) ?_
      refine Wk.rPass 12 (some 28) rfl rfl (by kernel_rfl) ?_
      refine Wk.rPass 13 (some 29) rfl rfl (by kernel_rfl) ?_
      refine Wk.rPure 14 (some 30) (.bool true) rfl rfl (by kernel_rfl) (by kernel_rfl) ?_
      refine Wk.rEnd 15 rfl ?_
      refine Wk.nxt ?_
      refine wp_cond_true (by kernel_rfl) ?_
      refine wp_seq ?_
      refine Wk.reg ?_
      refine Wk.rCall 0 (some 31) 8 [] #[] [] rfl rfl (by kernel_rfl) rfl (by kernel_rfl) (by kernel_rfl) ?_
      refine (known_any W1).mono ?_
      rintro _ W3 ⟨rfl, hB2⟩
      have ch3 := Wk.Chg.ofBelow hB2
      have zz3 := ch3.size
      refine ⟨_, rfl, ?_⟩
      refine Wk.rPure 1 (some 6) (.bool true) rfl rfl (by kernel_rfl) (by kernel_rfl) ?_
      refine Wk.rEnd 2 rfl ?_
      refine Wk.nxt ?_
      refine wp_ret ?_
      refine Wk.thR ?_
      have kk3 : Wk.Chg [] w W1 := Wk.Chg.step ((Wk.Chg.refl _).more (by simp)) ch1 trivial
      have kk4 := Wk.Chg.step kk3 ch3 trivial
      refine Wk.ret (.bool true) rfl (by kernel_rfl) ?_
      exact ⟨rfl, Wk.Chg.below0 kk4⟩
    · refine Wk.rPure 8 (some 24) (.bool false) rfl rfl (by kernel_rfl) (Wk.boolF (b := decide (budget > (300 : Int))) (decide_eq_false (by first | exact hx2 | omega)) (by kernel_rfl)) ?_
      refine Wk.rPure 9 (some 25) (.bool false) rfl rfl (by kernel_rfl) (by kernel_rfl) ?_
      refine Wk.rPure 10 (some 26) (.bool false) rfl rfl (by kernel_rfl) (by kernel_rfl) ?_
      refine Wk.rPure 11 (some 27) (.slice A n c) rfl rfl (by kernel_rfl) (by kernel_rfl) ?_
      refine Wk.rPure 12 (some 28) (.int .i64 ((n : Nat) : Int)) rfl rfl (by kernel_rfl) (by kernel_rfl) ?_
      by_cases hx3 : ((n : Nat) : Int) > (300 : Int)
      · refine Wk.rPure 13 (some 29) (.bool true) rfl rfl (by kernel_rfl) (Wk.boolT (b := decide (((n : Nat) : Int) > (300 : Int))) (decide_eq_true (by first | exact hx3 | omega)) (by kernel_rfl)) ?_
        refine Wk.rPure 14 (some 30) (.bool true) rfl rfl (by kernel_rfl) (by kernel_rfl) ?_
        refine Wk.rEnd 15 rfl ?_
        refine Wk.nxt ?_
        refine wp_cond_true (by kernel_rfl) ?_
        refine wp_seq ?_
        refine Wk.reg ?_
        refine Wk.rCall 0 (some 31) 8 [] #[] [] rfl rfl (by kernel_rfl) rfl (by kernel_rfl) (by kernel_rfl) ?_
        refine (known_any W1).mono ?_
        rintro _ W4 ⟨rfl, hB3⟩
        have ch4 := Wk.Chg.ofBelow hB3
        have zz4 := ch4.size
        refine ⟨_, rfl, ?_⟩
        refine Wk.rPure 1 (some 6) (.bool true) rfl rfl (by kernel_rfl) (by kernel_rfl) ?_
        refine Wk.rEnd 2 rfl ?_
        refine Wk.nxt ?_
        refine wp_ret ?_
        refine Wk.thR ?_
        have kk5 : Wk.Chg [] w W1 := Wk.Chg.step ((Wk.Chg.refl _).more (by simp)) ch1 trivial
        have kk6 := Wk.Chg.step kk5 ch4 trivial
        refine Wk.ret (.bool true) rfl (by kernel_rfl) ?_
        exact ⟨rfl, Wk.Chg.below0 kk6⟩
      · refine Wk.rPure 13 (some 29) (.bool false) rfl rfl (by kernel_rfl) (Wk.boolF (b := decide (((n : Nat) : Int) > (300 : Int))) (decide_eq_false (by first | exact hx3 | omega)) (by kernel_rfl)) ?_
        refine Wk.rPure 14 (some 30) (.bool false) rfl rfl (by kernel_rfl) (by kernel_rfl) ?_
        refine Wk.rEnd 15 rfl ?_
        refine Wk.nxt ?_
        refine wp_cond_false (by kernel_rfl) ?_
        refine wp_skip ?_
        refine Wk.nxt ?_
        refine wp_seq ?_
        refine Wk.reg ?_
        refine Wk.rPure 0 (some 8) (.int .i64 (-1)) rfl rfl (by kernel_rfl) (by kernel_rfl) ?_
        refine Wk.rEnd 1 rfl ?_
        refine Wk.nxt ?_
        refine wp_seq ?_
        refine wp_seq ?_
        refine Wk.reg ?_
        refine Wk.rPure 0 (some 9) (.int .i64 0) rfl rfl (by kernel_rfl) (by kernel_rfl) ?_
        refine Wk.rEnd 1 rfl ?_
        refine Wk.nxt ?_
        refine wp_block ?_
        refine Wk.loop (fun m_ a wr => ∃ (k : Nat) (t : Trn) (ran : Int), m_ = (most + budget + 5).toNat - k ∧ a = EndsYes_F0 a.tmps (.int .i64 most) (.int .i64 budget) (.slice A n c) (.pointer (some ⟨w.heap.size, 0, none⟩)) (.int .i64 ran) (.int .i64 ((k : Nat) : Int)) ∧ (k : Int) ≤ most + budget + 5 ∧ wr.heap[w.heap.size]? = some (.cells t.cells 41 (0, 0)) ∧ Mur.EndsInv most budget k t ran ∧ Wk.Chg [] w wr) ((most + budget + 5).toNat - 0) ?_ ?_
        · have kk7 : Wk.Chg [] w W1 := Wk.Chg.step ((Wk.Chg.refl _).more (by simp)) ch1 trivial
          refine ⟨0, Trn.new most budget, -1, rfl, by kernel_rfl, (by simp; omega), hb1, (Mur.EndsInv.new ⟨by omega, by omega⟩ ⟨by omega, by omega⟩), kk7⟩
        · rintro mm1 aa1 W5 ⟨k, t, ran, hmm1, hF1, hk, hG, hI, HB⟩
          generalize aa1.tmps = bb1 at hF1
          subst hF1
          have hsz : w.heap.size < W5.heap.size := (Array.getElem?_eq_some_iff.1 hG).1
          have hrr := hI.rr
          refine wp_seq ?_
          refine wp_seq ?_
          refine Wk.reg ?_
          refine Wk.rPure 0 (some 32) (.int .i64 ((k : Nat) : Int)) rfl rfl (by kernel_rfl) (by kernel_rfl) ?_
          refine Wk.rPure 1 (some 33) (.int .i64 most) rfl rfl (by kernel_rfl) (by kernel_rfl) ?_
          refine Wk.rPure 2 (some 34) (.int .i64 budget) rfl rfl (by kernel_rfl) (by kernel_rfl) ?_
          refine Wk.rPure 3 (some 35) (.int .i64 (most + budget)) rfl rfl (by kernel_rfl) (Wk.int64 (n := most + budget) (z := most + budget) (by omega) (by omega) (by omega) (by kernel_rfl)) ?_
          refine Wk.rPure 4 (some 36) (.int .i64 ((most + budget) + 4)) rfl rfl (by kernel_rfl) (Wk.int64 (n := (most + budget) + 4) (z := (most + budget) + 4) (by omega) (by omega) (by omega) (by kernel_rfl)) ?_
          by_cases hx4 : ((k : Nat) : Int) ≤ ((most + budget) + 4)
          · refine Wk.rPure 5 (some 37) (.bool true) rfl rfl (by kernel_rfl) (Wk.boolT (b := decide (((k : Nat) : Int) ≤ ((most + budget) + 4))) (decide_eq_true (by first | exact hx4 | omega)) (by kernel_rfl)) ?_
            refine Wk.rEnd 6 rfl ?_
            refine Wk.nxt ?_
            refine wp_cond_true (by kernel_rfl) ?_
            refine wp_skip ?_
            refine Wk.nxt ?_
            refine wp_seq ?_
            refine wp_block ?_
            refine wp_seq ?_
            refine Wk.reg ?_
            refine Wk.rEx 0 (some 10) _ rfl rfl (by kernel_rfl) (Wk.new_ex (.pointer (some ⟨W5.heap.size, 0, none⟩)) #[.bool false, .bool false, .bool false, .bool false, .bool false, .bool false, .bool false, .bool false] 28 (by kernel_rfl)) ?_
            rintro _ W6 ⟨rfl, hb2, ch5, sz2⟩
            have zz5 := ch5.size
            refine Wk.rEnd 1 rfl ?_
            refine Wk.nxt ?_
            refine wp_seq ?_
            refine Wk.cut (fun a wj => ∃ (c0 : Bool) (c1 : Bool) (c2 : Bool) (c3 : Bool) (c4 : Bool) (c5 : Bool) (c6 : Bool) (c7 : Bool), a = EndsYes_J9_1 a.tmps (.int .i64 most) (.int .i64 budget) (.slice A n c) (.pointer (some ⟨w.heap.size, 0, none⟩)) (.int .i64 ran) (.int .i64 ((k : Nat) : Int)) (.pointer (some ⟨W5.heap.size, 0, none⟩)) ∧ Wk.Chg [W5.heap.size] W6 wj ∧ wj.heap[W5.heap.size]? = some (.cells #[.bool c0, .bool c1, .bool c2, .bool c3, .bool c4, .bool c5, .bool c6, .bool c7] 28 (0, 0))) ?_ ?_
            · refine wp_seq ?_
              refine Wk.reg ?_
              refine Wk.rPure 0 (some 40) (.slice A n c) rfl rfl (by kernel_rfl) (by kernel_rfl) ?_
              refine Wk.rPure 1 (some 41) (.int .i64 ((n : Nat) : Int)) rfl rfl (by kernel_rfl) (by kernel_rfl) ?_
              by_cases hx5 : ((n : Nat) : Int) > (0 : Int)
              · refine Wk.rPure 2 (some 42) (.bool true) rfl rfl (by kernel_rfl) (Wk.boolT (b := decide (((n : Nat) : Int) > (0 : Int))) (decide_eq_true (by first | exact hx5 | omega)) (by kernel_rfl)) ?_
                refine Wk.rEnd 3 rfl ?_
                refine Wk.nxt ?_
                refine wp_cond_true (by kernel_rfl) ?_
                refine Wk.reg ?_
                refine Wk.rPure 0 (some 43) (.slice A n c) rfl rfl (by kernel_rfl) (by kernel_rfl) ?_
                refine Wk.rPure 1 (some 44) (.int .i64 ((k : Nat) : Int)) rfl rfl (by kernel_rfl) (by kernel_rfl) ?_
                refine Wk.rPure 2 (some 45) (.slice A n c) rfl rfl (by kernel_rfl) (by kernel_rfl) ?_
                refine Wk.rPure 3 (some 46) (.int .i64 ((n : Nat) : Int)) rfl rfl (by kernel_rfl) (by kernel_rfl) ?_
                have hn0 : 0 < n := by omega
                have hkm : k % n < n := Nat.mod_lt _ hn0
                obtain ⟨g, off, rfl, hc⟩ := HL.out.2 (by intro h; have hx := HL.out.1; rw [h] at hx; simp at hx; omega)
                obtain ⟨f, hx⟩ : ∃ p, L[k % n]? = some p := ⟨_, List.getElem?_eq_getElem (by omega)⟩
                obtain ⟨b0, b1, b2, b3, b4, b5, b6, b7⟩ := f
                have qF : w.rangeAt g (off + (k % n) * 8) [.bool b0, .bool b1, .bool b2, .bool b3, .bool b4, .bool b5, .bool b6, .bool b7] := facts_at hc hx
                have hg : g < w.heap.size := World.block_lt_of_cell? w _ (qF 0 _ rfl)
                clear hc
                refine Wk.rPure 4 (some 47) (.int .i64 ((k % n : Nat) : Int)) rfl rfl (by kernel_rfl) (Wk.rem_nat 3 3 (.tmp 44) (.tmp 46) rfl k n (by kernel_rfl) (by kernel_rfl) hn0) ?_
                refine Wk.rPure 5 (some 48) (.pointer (some ⟨g, off + (k % n) * 8, none⟩)) rfl rfl (by kernel_rfl) (Wk.index_sl 38 28 (.tmp 43) (.tmp 47) rfl Try.underlying38 8 (by kernel_rfl) g off n c (k % n) .i64 (by kernel_rfl) (by kernel_rfl) (by omega)) ?_
                have kk8 := Wk.Chg.step HB ch5 trivial
                refine Wk.rPure 6 (some 49) (.agg #[.bool b0, .bool b1, .bool b2, .bool b3, .bool b4, .bool b5, .bool b6, .bool b7]) rfl rfl (by kernel_rfl) (Wk.loadR 28 (.tmp 48) rfl _ Try.underlying28 rfl g (off + (k % n) * 8) (by kernel_rfl) ([.bool b0, .bool b1, .bool b2, .bool b3, .bool b4, .bool b5, .bool b6, .bool b7]) (by kernel_rfl) (Wk.Chg.range kk8 qF trivial)) ?_
                refine Wk.rExS 7 none _ rfl rfl (by kernel_rfl) (Wk.storeR 28 (.tmp 10) (.tmp 49) rfl W5.heap.size 0 (by kernel_rfl) ([.bool b0, .bool b1, .bool b2, .bool b3, .bool b4, .bool b5, .bool b6, .bool b7]) (by kernel_rfl) (by kernel_rfl) (by intro v hv; simp at hv; rcases hv with h | h | h | h | h | h | h | h <;> (subst h; rfl)) 28 ([.bool false, .bool false, .bool false, .bool false, .bool false, .bool false, .bool false, .bool false]) hb2 (by simp)) ?_
                rintro W7 ⟨hb3, ch6⟩
                replace hb3 : W7.heap[W5.heap.size]? = some (.cells #[.bool b0, .bool b1, .bool b2, .bool b3, .bool b4, .bool b5, .bool b6, .bool b7] 28 (0, 0)) := hb3
                have zz6 := ch6.size
                refine Wk.rEnd 8 rfl ?_
                refine Wk.nxt ?_
                exact ⟨b0, b1, b2, b3, b4, b5, b6, b7, by kernel_rfl, (Wk.Chg.step ((Wk.Chg.refl _).more (by simp) : Wk.Chg [W5.heap.size] W6 W6) ch6 ⟨.inl (by simp), trivial⟩), hb3⟩
              · refine Wk.rPure 2 (some 42) (.bool false) rfl rfl (by kernel_rfl) (Wk.boolF (b := decide (((n : Nat) : Int) > (0 : Int))) (decide_eq_false (by first | exact hx5 | omega)) (by kernel_rfl)) ?_
                refine Wk.rEnd 3 rfl ?_
                refine Wk.nxt ?_
                refine wp_cond_false (by kernel_rfl) ?_
                refine wp_skip ?_
                refine Wk.nxt ?_
                exact ⟨false, false, false, false, false, false, false, false, by kernel_rfl, ((Wk.Chg.refl _).more (by simp) : Wk.Chg [W5.heap.size] W6 W6), hb2⟩
            · rintro aa2 W8 ⟨c0, c1, c2, c3, c4, c5, c6, c7, hF2, ch7, hfb⟩
              have zz7 := ch7.size
              generalize aa2.tmps = bb2 at hF2
              subst hF2
              refine Wk.nxt ?_
              refine wp_seq ?_
              refine Wk.reg ?_
              refine Wk.rPure 0 (some 50) (.pointer (some ⟨w.heap.size, 0, none⟩)) rfl rfl (by kernel_rfl) (by kernel_rfl) ?_
              refine Wk.rPure 1 (some 51) (.int .i64 ((k : Nat) : Int)) rfl rfl (by kernel_rfl) (by kernel_rfl) ?_
              refine Wk.rPure 2 (some 52) (.agg #[.bool c0, .bool c1, .bool c2, .bool c3, .bool c4, .bool c5, .bool c6, .bool c7]) rfl rfl (by kernel_rfl) (Wk.loadR 28 (.tmp 10) rfl _ Try.underlying28 rfl W5.heap.size 0 (by kernel_rfl) ([.bool c0, .bool c1, .bool c2, .bool c3, .bool c4, .bool c5, .bool c6, .bool c7]) (by kernel_rfl) (Wk.range_row hfb)) ?_
              refine Wk.rCall 3 (some 53) 10 [.tmp 50, .tmp 51, .tmp 52] #[23, 3, 28] [.pointer (some ⟨w.heap.size, 0, none⟩), .int .i64 ((k : Nat) : Int), .agg #[.bool c0, .bool c1, .bool c2, .bool c3, .bool c4, .bool c5, .bool c6, .bool c7]] rfl rfl (by kernel_rfl) rfl (by kernel_rfl) (by kernel_rfl) ?_
              obtain ⟨hout, hinv⟩ := Mur.ends_step hI (by omega) (⟨c0, c1, c2, c3, c4, c5, c6, c7⟩ : Fct)
              refine (Step_any t ((k : Nat) : Int) (⟨c0, c1, c2, c3, c4, c5, c6, c7⟩ : Fct) w.heap.size _ (Wk.Chg.hp ch7 (Wk.Chg.hp ch5 hG trivial) ⟨by omega, trivial⟩) hI.ok ⟨by omega, by omega⟩).mono ?_
              rintro _ W9 ⟨rfl, hu1⟩
              have ch8 := Mur.Upd.chg hu1
              replace hu1 := hu1.self
              generalize (Trn.Step t ((k : Nat) : Int) (⟨c0, c1, c2, c3, c4, c5, c6, c7⟩ : Fct)).1 = t1 at *
              generalize (Trn.Step t ((k : Nat) : Int) (⟨c0, c1, c2, c3, c4, c5, c6, c7⟩ : Fct)).2 = xw at *
              obtain ⟨hrange, hearly, htold, hover⟩ := hout
              have zz8 := ch8.size
              rcases hrange with rfl | rfl | rfl | rfl | rfl | rfl
              · obtain ⟨he1, he2⟩ := hearly (by decide)
                refine ⟨_, rfl, ?_⟩
                refine Wk.rPure 4 (some 11) (.int .u8 0) rfl rfl (by kernel_rfl) (by kernel_rfl) ?_
                refine Wk.rEnd 5 rfl ?_
                refine Wk.nxt ?_
                refine wp_seq ?_
                refine Wk.reg ?_
                refine Wk.rPure 0 (some 54) (.int .u8 0) rfl rfl (by kernel_rfl) (by kernel_rfl) ?_
                refine Wk.rPure 1 (some 55) (.bool false) rfl rfl (by kernel_rfl) (Wk.boolF (b := ((0 : Int) == (3 : Int))) (beq_eq_false_iff_ne.2 (by decide)) (by kernel_rfl)) ?_
                refine Wk.rPure 2 (some 56) (.bool false) rfl rfl (by kernel_rfl) (by kernel_rfl) ?_
                refine Wk.rPure 3 (some 57) (.int .u8 0) rfl rfl (by kernel_rfl) (by kernel_rfl) ?_
                refine Wk.rPure 4 (some 58) (.bool false) rfl rfl (by kernel_rfl) (Wk.boolF (b := ((0 : Int) == (4 : Int))) (beq_eq_false_iff_ne.2 (by decide)) (by kernel_rfl)) ?_
                refine Wk.rPure 5 (some 59) (.bool false) rfl rfl (by kernel_rfl) (by kernel_rfl) ?_
                refine Wk.rPure 6 (some 60) (.bool false) rfl rfl (by kernel_rfl) (by kernel_rfl) ?_
                refine Wk.rPure 7 (some 61) (.int .u8 0) rfl rfl (by kernel_rfl) (by kernel_rfl) ?_
                refine Wk.rPure 8 (some 62) (.bool false) rfl rfl (by kernel_rfl) (Wk.boolF (b := ((0 : Int) == (5 : Int))) (beq_eq_false_iff_ne.2 (by decide)) (by kernel_rfl)) ?_
                refine Wk.rPure 9 (some 63) (.bool false) rfl rfl (by kernel_rfl) (by kernel_rfl) ?_
                refine Wk.rPure 10 (some 12) (.bool false) rfl rfl (by kernel_rfl) (by kernel_rfl) ?_
                refine Wk.rEnd 11 rfl ?_
                refine Wk.nxt ?_
                refine wp_seq ?_
                refine Wk.cut (fun a wj => a = EndsYes_J13_2 a.tmps (.int .i64 most) (.int .i64 budget) (.slice A n c) (.pointer (some ⟨w.heap.size, 0, none⟩)) (.int .i64 ran) (.int .i64 ((k : Nat) : Int)) (.pointer (some ⟨W5.heap.size, 0, none⟩)) (.int .u8 0) ∧ W9 = wj) ?_ ?_
                · refine wp_seq ?_
                  refine Wk.reg ?_
                  refine Wk.rPure 0 (some 64) (.int .i64 ((k : Nat) : Int)) rfl rfl (by kernel_rfl) (by kernel_rfl) ?_
                  refine Wk.rPure 1 (some 65) (.int .i64 most) rfl rfl (by kernel_rfl) (by kernel_rfl) ?_
                  refine Wk.rPure 2 (some 66) (.int .i64 budget) rfl rfl (by kernel_rfl) (by kernel_rfl) ?_
                  refine Wk.rPure 3 (some 67) (.int .i64 (most + budget)) rfl rfl (by kernel_rfl) (Wk.int64 (n := most + budget) (z := most + budget) (by omega) (by omega) (by omega) (by kernel_rfl)) ?_
                  refine Wk.rPure 4 (some 68) (.int .i64 ((most + budget) + 2)) rfl rfl (by kernel_rfl) (Wk.int64 (n := (most + budget) + 2) (z := (most + budget) + 2) (by omega) (by omega) (by omega) (by kernel_rfl)) ?_
                  by_cases hx6 : ((k : Nat) : Int) ≥ ((most + budget) + 2)
                  · refine Wk.rPure 5 (some 69) (.bool true) rfl rfl (by kernel_rfl) (Wk.boolT (b := decide (((k : Nat) : Int) ≥ ((most + budget) + 2))) (decide_eq_true (by first | exact hx6 | omega)) (by kernel_rfl)) ?_
                    refine Wk.rPure 6 (some 70) (.bool true) rfl rfl (by kernel_rfl) (by kernel_rfl) ?_
                    refine Wk.rPure 7 (some 71) (.bool false) rfl rfl (by kernel_rfl) (by kernel_rfl) ?_
                    refine Wk.rPure 8 (some 72) (.bool true) rfl rfl (by kernel_rfl) (by kernel_rfl) ?_
                    refine Wk.rPure 9 (some 73) (.bool true) rfl rfl (by kernel_rfl) (by kernel_rfl) ?_
                    refine Wk.rPure 10 (some 74) (.bool true) rfl rfl (by kernel_rfl) (by kernel_rfl) ?_
                    refine Wk.rPass 11 (some 75) rfl rfl (by kernel_rfl) ?_
                    refine Wk.rPass 12 (some 76) rfl rfl (by kernel_rfl) ?_
                    refine Wk.rPass 13 (some 77) rfl rfl (by kernel_rfl) ?_
                    refine Wk.rPass 14 (some 78) rfl rfl (by kernel_rfl) ?_
                    refine Wk.rPass 15 (some 79) rfl rfl (by kernel_rfl) ?_
                    refine Wk.rPass 16 (some 80) rfl rfl (by kernel_rfl) ?_
                    refine Wk.rPure 17 (some 81) (.bool true) rfl rfl (by kernel_rfl) (by kernel_rfl) ?_
                    refine Wk.rPure 18 (some 82) (.bool true) rfl rfl (by kernel_rfl) (by kernel_rfl) ?_
                    refine Wk.rPass 19 (some 83) rfl rfl (by kernel_rfl) ?_
                    refine Wk.rPass 20 (some 84) rfl rfl (by kernel_rfl) ?_
                    refine Wk.rPass 21 (some 85) rfl rfl (by kernel_rfl) ?_
                    refine Wk.rPass 22 (some 86) rfl rfl (by kernel_rfl) ?_
                    refine Wk.rPass 23 (some 87) rfl rfl (by kernel_rfl) ?_
                    refine Wk.rPass 24 (some 88) rfl rfl (by kernel_rfl) ?_
                    refine Wk.rPass 25 (some 89) rfl rfl (by kernel_rfl) ?_
                    refine Wk.rPass 26 (some 90) rfl rfl (by kernel_rfl) ?_
                    refine Wk.rPass 27 (some 91) rfl rfl (by kernel_rfl) ?_
                    refine Wk.rPure 28 (some 92) (.bool true) rfl rfl (by kernel_rfl) (by kernel_rfl) ?_
                    refine Wk.rEnd 29 rfl ?_
                    refine Wk.nxt ?_
                    refine wp_cond_true (by kernel_rfl) ?_
                    refine wp_seq ?_
                    refine Wk.reg ?_
                    refine Wk.rPure 0 (some 6) (.bool false) rfl rfl (by kernel_rfl) (by kernel_rfl) ?_
                    refine Wk.rEnd 1 rfl ?_
                    refine Wk.nxt ?_
                    refine wp_ret ?_
                    refine Wk.thR ?_
                    refine Wk.thR ?_
                    refine Wk.inR ?_
                    refine Wk.thR ?_
                    refine Wk.thR ?_
                    refine Wk.inR ?_
                    refine Wk.thR ?_
                    exfalso; first | omega | (have hq := htold rfl (by omega); simp at hq)
                  · refine Wk.rPure 5 (some 69) (.bool false) rfl rfl (by kernel_rfl) (Wk.boolF (b := decide (((k : Nat) : Int) ≥ ((most + budget) + 2))) (decide_eq_false (by first | exact hx6 | omega)) (by kernel_rfl)) ?_
                    refine Wk.rPure 6 (some 70) (.bool false) rfl rfl (by kernel_rfl) (by kernel_rfl) ?_
                    refine Wk.rPass 7 (some 71) rfl rfl (by kernel_rfl) ?_
                    refine Wk.rPass 8 (some 72) rfl rfl (by kernel_rfl) ?_
                    refine Wk.rPure 9 (some 73) (.bool false) rfl rfl (by kernel_rfl) (by kernel_rfl) ?_
                    refine Wk.rPure 10 (some 74) (.bool false) rfl rfl (by kernel_rfl) (by kernel_rfl) ?_
                    refine Wk.rPure 11 (some 75) (.int .i64 ran) rfl rfl (by kernel_rfl) (by kernel_rfl) ?_
                    by_cases hx7 : ran ≥ (0 : Int)
                    · refine Wk.rPure 12 (some 76) (.bool true) rfl rfl (by kernel_rfl) (Wk.boolT (b := decide (ran ≥ (0 : Int))) (decide_eq_true (by first | exact hx7 | omega)) (by kernel_rfl)) ?_
                      refine Wk.rPure 13 (some 77) (.bool true) rfl rfl (by kernel_rfl) (by kernel_rfl) ?_
                      refine Wk.rPure 14 (some 78) (.bool false) rfl rfl (by kernel_rfl) (by kernel_rfl) ?_
                      refine Wk.rPure 15 (some 79) (.bool true) rfl rfl (by kernel_rfl) (by kernel_rfl) ?_
                      refine Wk.rPure 16 (some 80) (.bool true) rfl rfl (by kernel_rfl) (by kernel_rfl) ?_
                      refine Wk.rPure 17 (some 81) (.bool true) rfl rfl (by kernel_rfl) (by kernel_rfl) ?_
                      refine Wk.rPure 18 (some 82) (.bool true) rfl rfl (by kernel_rfl) (by kernel_rfl) ?_
                      refine Wk.rPass 19 (some 83) rfl rfl (by kernel_rfl) ?_
                      refine Wk.rPass 20 (some 84) rfl rfl (by kernel_rfl) ?_
                      refine Wk.rPass 21 (some 85) rfl rfl (by kernel_rfl) ?_
                      refine Wk.rPass 22 (some 86) rfl rfl (by kernel_rfl) ?_
                      refine Wk.rPass 23 (some 87) rfl rfl (by kernel_rfl) ?_
                      refine Wk.rPass 24 (some 88) rfl rfl (by kernel_rfl) ?_
                      refine Wk.rPass 25 (some 89) rfl rfl (by kernel_rfl) ?_
                      refine Wk.rPass 26 (some 90) rfl rfl (by kernel_rfl) ?_
                      refine Wk.rPass 27 (some 91) rfl rfl (by kernel_rfl) ?_
                      refine Wk.rPure 28 (some 92) (.bool true) rfl rfl (by kernel_rfl) (by kernel_rfl) ?_
                      refine Wk.rEnd 29 rfl ?_
                      refine Wk.nxt ?_
                      refine wp_cond_true (by kernel_rfl) ?_
                      refine wp_seq ?_
                      refine Wk.reg ?_
                      refine Wk.rPure 0 (some 6) (.bool false) rfl rfl (by kernel_rfl) (by kernel_rfl) ?_
                      refine Wk.rEnd 1 rfl ?_
                      refine Wk.nxt ?_
                      refine wp_ret ?_
                      refine Wk.thR ?_
                      refine Wk.thR ?_
                      refine Wk.inR ?_
                      refine Wk.thR ?_
                      refine Wk.thR ?_
                      refine Wk.inR ?_
                      refine Wk.thR ?_
                      exfalso; first | omega | (have hq := htold rfl (by omega); simp at hq)
                    · refine Wk.rPure 12 (some 76) (.bool false) rfl rfl (by kernel_rfl) (Wk.boolF (b := decide (ran ≥ (0 : Int))) (decide_eq_false (by first | exact hx7 | omega)) (by kernel_rfl)) ?_
                      refine Wk.rPure 13 (some 77) (.bool false) rfl rfl (by kernel_rfl) (by kernel_rfl) ?_
                      refine Wk.rPass 14 (some 78) rfl rfl (by kernel_rfl) ?_
                      refine Wk.rPass 15 (some 79) rfl rfl (by kernel_rfl) ?_
                      refine Wk.rPure 16 (some 80) (.bool false) rfl rfl (by kernel_rfl) (by kernel_rfl) ?_
                      refine Wk.rPure 17 (some 81) (.bool false) rfl rfl (by kernel_rfl) (by kernel_rfl) ?_
                      refine Wk.rPure 18 (some 82) (.bool false) rfl rfl (by kernel_rfl) (by kernel_rfl) ?_
                      refine Wk.rPure 19 (some 83) (.pointer (some ⟨w.heap.size, 0, none⟩)) rfl rfl (by kernel_rfl) (by kernel_rfl) ?_
                      refine Wk.rCall 20 (some 84) 11 [.tmp 83] #[23] [.pointer (some ⟨w.heap.size, 0, none⟩)] rfl rfl (by kernel_rfl) rfl (by kernel_rfl) (by kernel_rfl) ?_
                      refine (Over_any t1 w.heap.size _ hu1).mono ?_
                      rintro _ _ ⟨rfl, rfl⟩
                      rw [hover]
                      rw [show (decide (4 ≤ (0 : Int))) = false from rfl]
                      refine ⟨_, rfl, ?_⟩
                      refine Wk.rPure 21 (some 85) (.int .u8 0) rfl rfl (by kernel_rfl) (by kernel_rfl) ?_
                      refine Wk.rPure 22 (some 86) (.bool false) rfl rfl (by kernel_rfl) (Wk.boolF (b := ((0 : Int) == (4 : Int))) (beq_eq_false_iff_ne.2 (by decide)) (by kernel_rfl)) ?_
                      refine Wk.rPure 23 (some 87) (.bool false) rfl rfl (by kernel_rfl) (by kernel_rfl) ?_
                      refine Wk.rPure 24 (some 88) (.int .u8 0) rfl rfl (by kernel_rfl) (by kernel_rfl) ?_
                      refine Wk.rPure 25 (some 89) (.bool false) rfl rfl (by kernel_rfl) (Wk.boolF (b := ((0 : Int) == (5 : Int))) (beq_eq_false_iff_ne.2 (by decide)) (by kernel_rfl)) ?_
                      refine Wk.rPure 26 (some 90) (.bool false) rfl rfl (by kernel_rfl) (by kernel_rfl) ?_
                      refine Wk.rPure 27 (some 91) (.bool false) rfl rfl (by kernel_rfl) (by kernel_rfl) ?_
                      refine Wk.rPure 28 (some 92) (.bool false) rfl rfl (by kernel_rfl) (by kernel_rfl) ?_
                      refine Wk.rEnd 29 rfl ?_
                      refine Wk.nxt ?_
                      refine wp_cond_false (by kernel_rfl) ?_
                      refine wp_skip ?_
                      refine Wk.nxt ?_
                      exact ⟨by kernel_rfl, rfl⟩
                · rintro aa3 _ ⟨hF3, rfl⟩
                  generalize aa3.tmps = bb3 at hF3
                  subst hF3
                  refine Wk.nxt ?_
                  refine wp_seq ?_
                  refine Wk.cut (fun a wj => a = EndsYes_J15_3 a.tmps (.int .i64 most) (.int .i64 budget) (.slice A n c) (.pointer (some ⟨w.heap.size, 0, none⟩)) (.int .i64 ran) (.int .i64 ((k : Nat) : Int)) (.int .u8 0) ∧ W9 = wj) ?_ ?_
                  · refine wp_seq ?_
                    refine Wk.reg ?_
                    refine Wk.rPure 0 (some 93) (.int .i64 ran) rfl rfl (by kernel_rfl) (by kernel_rfl) ?_
                    by_cases hx8 : ran ≥ (0 : Int)
                    · refine Wk.rPure 1 (some 94) (.bool true) rfl rfl (by kernel_rfl) (Wk.boolT (b := decide (ran ≥ (0 : Int))) (decide_eq_true (by first | exact hx8 | omega)) (by kernel_rfl)) ?_
                      refine Wk.rPure 2 (some 95) (.bool true) rfl rfl (by kernel_rfl) (by kernel_rfl) ?_
                      refine Wk.rPure 3 (some 96) (.pointer (some ⟨w.heap.size, 0, none⟩)) rfl rfl (by kernel_rfl) (by kernel_rfl) ?_
                      refine Wk.rCall 4 (some 97) 11 [.tmp 96] #[23] [.pointer (some ⟨w.heap.size, 0, none⟩)] rfl rfl (by kernel_rfl) rfl (by kernel_rfl) (by kernel_rfl) ?_
                      refine (Over_any t1 w.heap.size _ hu1).mono ?_
                      rintro _ _ ⟨rfl, rfl⟩
                      rw [hover]
                      rw [show (decide (4 ≤ (0 : Int))) = false from rfl]
                      refine ⟨_, rfl, ?_⟩
                      refine Wk.rPure 5 (some 98) (.bool true) rfl rfl (by kernel_rfl) (by kernel_rfl) ?_
                      refine Wk.rPure 6 (some 99) (.bool true) rfl rfl (by kernel_rfl) (by kernel_rfl) ?_
                      refine Wk.rPure 7 (some 100) (.bool true) rfl rfl (by kernel_rfl) (by kernel_rfl) ?_
                      refine Wk.rPure 8 (some 101) (.pointer (some ⟨W5.heap.size, 6, none⟩)) rfl rfl (by kernel_rfl) (by kernel_rfl) ?_
                      refine Wk.rPure 9 (some 102) (.bool c6) rfl rfl (by kernel_rfl) (Wk.load1 4 (.tmp 101) rfl (by kernel_rfl) ⟨W5.heap.size, 6, none⟩ (by kernel_rfl) (.bool c6) ((cell_of_row _ _ 6 _ _ _ (Wk.Chg.hp ch8 hfb ⟨by omega, trivial⟩)).trans rfl)) ?_
                      refine Wk.rPure 10 (some 103) (.bool c6) rfl rfl (by kernel_rfl) (by kernel_rfl) ?_
                      cases c6
                      · refine Wk.rPure 11 (some 104) (.pointer (some ⟨W5.heap.size, 7, none⟩)) rfl rfl (by kernel_rfl) (by kernel_rfl) ?_
                        refine Wk.rPure 12 (some 105) (.bool c7) rfl rfl (by kernel_rfl) (Wk.load1 4 (.tmp 104) rfl (by kernel_rfl) ⟨W5.heap.size, 7, none⟩ (by kernel_rfl) (.bool c7) ((cell_of_row _ _ 7 _ _ _ (Wk.Chg.hp ch8 hfb ⟨by omega, trivial⟩)).trans rfl)) ?_
                        refine Wk.rPure 13 (some 106) (.bool c7) rfl rfl (by kernel_rfl) (by kernel_rfl) ?_
                        refine Wk.rPure 14 (some 107) (.bool c7) rfl rfl (by kernel_rfl) (by kernel_rfl) ?_
                        cases c7
                        · refine Wk.rPure 15 (some 108) (.pointer (some ⟨W5.heap.size, 0, none⟩)) rfl rfl (by kernel_rfl) (by kernel_rfl) ?_
                          refine Wk.rPure 16 (some 109) (.bool c0) rfl rfl (by kernel_rfl) (Wk.load1 4 (.tmp 108) rfl (by kernel_rfl) ⟨W5.heap.size, 0, none⟩ (by kernel_rfl) (.bool c0) ((cell_of_row _ _ 0 _ _ _ (Wk.Chg.hp ch8 hfb ⟨by omega, trivial⟩)).trans rfl)) ?_
                          refine Wk.rPure 17 (some 110) (.bool c0) rfl rfl (by kernel_rfl) (by kernel_rfl) ?_
                          refine Wk.rPure 18 (some 111) (.bool c0) rfl rfl (by kernel_rfl) (by kernel_rfl) ?_
                          refine Wk.rEnd 19 rfl ?_
                          refine Wk.nxt ?_
                          cases c0
                          · refine wp_cond_false (by kernel_rfl) ?_
                            refine wp_skip ?_
                            refine Wk.nxt ?_
                            exact ⟨by kernel_rfl, rfl⟩
                          · refine wp_cond_true (by kernel_rfl) ?_
                            refine wp_seq ?_
                            refine Wk.reg ?_
                            refine Wk.rPure 0 (some 6) (.bool false) rfl rfl (by kernel_rfl) (by kernel_rfl) ?_
                            refine Wk.rEnd 1 rfl ?_
                            refine Wk.nxt ?_
                            refine wp_ret ?_
                            refine Wk.thR ?_
                            refine Wk.thR ?_
                            refine Wk.inR ?_
                            refine Wk.thR ?_
                            refine Wk.thR ?_
                            refine Wk.inR ?_
                            refine Wk.thR ?_
                            exfalso; first | omega | (have hq := htold rfl (by omega); simp at hq)
                        · refine Wk.rPass 15 (some 108) rfl rfl (by kernel_rfl) ?_
                          refine Wk.rPass 16 (some 109) rfl rfl (by kernel_rfl) ?_
                          refine Wk.rPure 17 (some 110) (.bool true) rfl rfl (by kernel_rfl) (by kernel_rfl) ?_
                          refine Wk.rPure 18 (some 111) (.bool true) rfl rfl (by kernel_rfl) (by kernel_rfl) ?_
                          refine Wk.rEnd 19 rfl ?_
                          refine Wk.nxt ?_
                          refine wp_cond_true (by kernel_rfl) ?_
                          refine wp_seq ?_
                          refine Wk.reg ?_
                          refine Wk.rPure 0 (some 6) (.bool false) rfl rfl (by kernel_rfl) (by kernel_rfl) ?_
                          refine Wk.rEnd 1 rfl ?_
                          refine Wk.nxt ?_
                          refine wp_ret ?_
                          refine Wk.thR ?_
                          refine Wk.thR ?_
                          refine Wk.inR ?_
                          refine Wk.thR ?_
                          refine Wk.thR ?_
                          refine Wk.inR ?_
                          refine Wk.thR ?_
                          exfalso; first | omega | (have hq := htold rfl (by omega); simp at hq)
                      · refine Wk.rPass 11 (some 104) rfl rfl (by kernel_rfl) ?_
                        refine Wk.rPass 12 (some 105) rfl rfl (by kernel_rfl) ?_
                        refine Wk.rPure 13 (some 106) (.bool true) rfl rfl (by kernel_rfl) (by kernel_rfl) ?_
                        refine Wk.rPure 14 (some 107) (.bool true) rfl rfl (by kernel_rfl) (by kernel_rfl) ?_
                        refine Wk.rPass 15 (some 108) rfl rfl (by kernel_rfl) ?_
                        refine Wk.rPass 16 (some 109) rfl rfl (by kernel_rfl) ?_
                        refine Wk.rPure 17 (some 110) (.bool true) rfl rfl (by kernel_rfl) (by kernel_rfl) ?_
                        refine Wk.rPure 18 (some 111) (.bool true) rfl rfl (by kernel_rfl) (by kernel_rfl) ?_
                        refine Wk.rEnd 19 rfl ?_
                        refine Wk.nxt ?_
                        refine wp_cond_true (by kernel_rfl) ?_
                        refine wp_seq ?_
                        refine Wk.reg ?_
                        refine Wk.rPure 0 (some 6) (.bool false) rfl rfl (by kernel_rfl) (by kernel_rfl) ?_
                        refine Wk.rEnd 1 rfl ?_
                        refine Wk.nxt ?_
                        refine wp_ret ?_
                        refine Wk.thR ?_
                        refine Wk.thR ?_
                        refine Wk.inR ?_
                        refine Wk.thR ?_
                        refine Wk.thR ?_
                        refine Wk.inR ?_
                        refine Wk.thR ?_
                        exfalso; first | omega | (have hq := htold rfl (by omega); simp at hq)
                    · refine Wk.rPure 1 (some 94) (.bool false) rfl rfl (by kernel_rfl) (Wk.boolF (b := decide (ran ≥ (0 : Int))) (decide_eq_false (by first | exact hx8 | omega)) (by kernel_rfl)) ?_
                      refine Wk.rPure 2 (some 95) (.bool false) rfl rfl (by kernel_rfl) (by kernel_rfl) ?_
                      refine Wk.rPass 3 (some 96) rfl rfl (by kernel_rfl) ?_
                      refine Wk.rPass 4 (some 97) rfl rfl (by kernel_rfl) ?_
                      refine Wk.rPass 5 (some 98) rfl rfl (by kernel_rfl) ?_
                      refine Wk.rPure 6 (some 99) (.bool false) rfl rfl (by kernel_rfl) (by kernel_rfl) ?_
                      refine Wk.rPure 7 (some 100) (.bool false) rfl rfl (by kernel_rfl) (by kernel_rfl) ?_
                      refine Wk.rPass 8 (some 101) rfl rfl (by kernel_rfl) ?_
                      refine Wk.rPass 9 (some 102) rfl rfl (by kernel_rfl) ?_
                      refine Wk.rPass 10 (some 103) rfl rfl (by kernel_rfl) ?_
                      refine Wk.rPass 11 (some 104) rfl rfl (by kernel_rfl) ?_
                      refine Wk.rPass 12 (some 105) rfl rfl (by kernel_rfl) ?_
                      refine Wk.rPass 13 (some 106) rfl rfl (by kernel_rfl) ?_
                      refine Wk.rPass 14 (some 107) rfl rfl (by kernel_rfl) ?_
                      refine Wk.rPass 15 (some 108) rfl rfl (by kernel_rfl) ?_
                      refine Wk.rPass 16 (some 109) rfl rfl (by kernel_rfl) ?_
                      refine Wk.rPass 17 (some 110) rfl rfl (by kernel_rfl) ?_
                      refine Wk.rPure 18 (some 111) (.bool false) rfl rfl (by kernel_rfl) (by kernel_rfl) ?_
                      refine Wk.rEnd 19 rfl ?_
                      refine Wk.nxt ?_
                      refine wp_cond_false (by kernel_rfl) ?_
                      refine wp_skip ?_
                      refine Wk.nxt ?_
                      exact ⟨by kernel_rfl, rfl⟩
                  · rintro aa4 _ ⟨hF4, rfl⟩
                    generalize aa4.tmps = bb4 at hF4
                    subst hF4
                    refine Wk.nxt ?_
                    refine wp_seq ?_
                    refine Wk.reg ?_
                    refine Wk.rPure 0 (some 112) (.int .u8 0) rfl rfl (by kernel_rfl) (by kernel_rfl) ?_
                    refine Wk.rPure 1 (some 113) (.bool false) rfl rfl (by kernel_rfl) (Wk.boolF (b := ((0 : Int) == (3 : Int))) (beq_eq_false_iff_ne.2 (by decide)) (by kernel_rfl)) ?_
                    refine Wk.rPure 2 (some 114) (.bool false) rfl rfl (by kernel_rfl) (by kernel_rfl) ?_
                    refine Wk.rPass 3 (some 115) rfl rfl (by kernel_rfl) ?_
                    refine Wk.rPass 4 (some 116) rfl rfl (by kernel_rfl) ?_
                    refine Wk.rPure 5 (some 117) (.bool false) rfl rfl (by kernel_rfl) (by kernel_rfl) ?_
                    refine Wk.rEnd 6 rfl ?_
                    refine Wk.nxt ?_
                    refine wp_cond_false (by kernel_rfl) ?_
                    refine wp_skip ?_
                    refine Wk.inN ?_
                    refine Wk.nxt ?_
                    refine Wk.reg ?_
                    refine Wk.rPure 0 (some 38) (.int .i64 ((k : Nat) : Int)) rfl rfl (by kernel_rfl) (by kernel_rfl) ?_
                    refine Wk.rPure 1 (some 39) (.int .i64 ((k + 1 : Nat) : Int)) rfl rfl (by kernel_rfl) (Wk.int64 (n := ((k : Nat) : Int) + 1) (z := ((k + 1 : Nat) : Int)) (by omega) (by omega) (by omega) (by kernel_rfl)) ?_
                    refine Wk.rPure 2 (some 9) (.int .i64 ((k + 1 : Nat) : Int)) rfl rfl (by kernel_rfl) (by kernel_rfl) ?_
                    refine Wk.rEnd 3 rfl ?_
                    refine Wk.nxt ?_
                    have kk9 := Wk.Chg.step HB ch5 trivial
                    have kk10 := Wk.Chg.step kk9 ch7 ⟨.inr (by omega), trivial⟩
                    have kk11 := Wk.Chg.step kk10 ch8 ⟨.inr (by omega), trivial⟩
                    refine ⟨_, ?_, k + 1, t1, ran, rfl, by kernel_rfl, (by omega), hu1, (by first | exact hinv | (rw [if_pos ⟨rfl, by omega⟩] at hinv; exact hinv) | (rw [if_neg (by omega)] at hinv; exact hinv)), kk11⟩
                    · omega
              · obtain ⟨he1, he2⟩ := hearly (by decide)
                refine ⟨_, rfl, ?_⟩
                refine Wk.rPure 4 (some 11) (.int .u8 1) rfl rfl (by kernel_rfl) (by kernel_rfl) ?_
                refine Wk.rEnd 5 rfl ?_
                refine Wk.nxt ?_
                refine wp_seq ?_
                refine Wk.reg ?_
                refine Wk.rPure 0 (some 54) (.int .u8 1) rfl rfl (by kernel_rfl) (by kernel_rfl) ?_
                refine Wk.rPure 1 (some 55) (.bool false) rfl rfl (by kernel_rfl) (Wk.boolF (b := ((1 : Int) == (3 : Int))) (beq_eq_false_iff_ne.2 (by decide)) (by kernel_rfl)) ?_
                refine Wk.rPure 2 (some 56) (.bool false) rfl rfl (by kernel_rfl) (by kernel_rfl) ?_
                refine Wk.rPure 3 (some 57) (.int .u8 1) rfl rfl (by kernel_rfl) (by kernel_rfl) ?_
                refine Wk.rPure 4 (some 58) (.bool false) rfl rfl (by kernel_rfl) (Wk.boolF (b := ((1 : Int) == (4 : Int))) (beq_eq_false_iff_ne.2 (by decide)) (by kernel_rfl)) ?_
                refine Wk.rPure 5 (some 59) (.bool false) rfl rfl (by kernel_rfl) (by kernel_rfl) ?_
                refine Wk.rPure 6 (some 60) (.bool false) rfl rfl (by kernel_rfl) (by kernel_rfl) ?_
                refine Wk.rPure 7 (some 61) (.int .u8 1) rfl rfl (by kernel_rfl) (by kernel_rfl) ?_
                refine Wk.rPure 8 (some 62) (.bool false) rfl rfl (by kernel_rfl) (Wk.boolF (b := ((1 : Int) == (5 : Int))) (beq_eq_false_iff_ne.2 (by decide)) (by kernel_rfl)) ?_
                refine Wk.rPure 9 (some 63) (.bool false) rfl rfl (by kernel_rfl) (by kernel_rfl) ?_
                refine Wk.rPure 10 (some 12) (.bool false) rfl rfl (by kernel_rfl) (by kernel_rfl) ?_
                refine Wk.rEnd 11 rfl ?_
                refine Wk.nxt ?_
                refine wp_seq ?_
                refine Wk.cut (fun a wj => a = EndsYes_J13_4 a.tmps (.int .i64 most) (.int .i64 budget) (.slice A n c) (.pointer (some ⟨w.heap.size, 0, none⟩)) (.int .i64 ran) (.int .i64 ((k : Nat) : Int)) (.pointer (some ⟨W5.heap.size, 0, none⟩)) (.int .u8 1) ∧ W9 = wj) ?_ ?_
                · refine wp_seq ?_
                  refine Wk.reg ?_
                  refine Wk.rPure 0 (some 64) (.int .i64 ((k : Nat) : Int)) rfl rfl (by kernel_rfl) (by kernel_rfl) ?_
                  refine Wk.rPure 1 (some 65) (.int .i64 most) rfl rfl (by kernel_rfl) (by kernel_rfl) ?_
                  refine Wk.rPure 2 (some 66) (.int .i64 budget) rfl rfl (by kernel_rfl) (by kernel_rfl) ?_
                  refine Wk.rPure 3 (some 67) (.int .i64 (most + budget)) rfl rfl (by kernel_rfl) (Wk.int64 (n := most + budget) (z := most + budget) (by omega) (by omega) (by omega) (by kernel_rfl)) ?_
                  refine Wk.rPure 4 (some 68) (.int .i64 ((most + budget) + 2)) rfl rfl (by kernel_rfl) (Wk.int64 (n := (most + budget) + 2) (z := (most + budget) + 2) (by omega) (by omega) (by omega) (by kernel_rfl)) ?_
                  by_cases hx9 : ((k : Nat) : Int) ≥ ((most + budget) + 2)
                  · refine Wk.rPure 5 (some 69) (.bool true) rfl rfl (by kernel_rfl) (Wk.boolT (b := decide (((k : Nat) : Int) ≥ ((most + budget) + 2))) (decide_eq_true (by first | exact hx9 | omega)) (by kernel_rfl)) ?_
                    refine Wk.rPure 6 (some 70) (.bool true) rfl rfl (by kernel_rfl) (by kernel_rfl) ?_
                    refine Wk.rPure 7 (some 71) (.bool false) rfl rfl (by kernel_rfl) (by kernel_rfl) ?_
                    refine Wk.rPure 8 (some 72) (.bool true) rfl rfl (by kernel_rfl) (by kernel_rfl) ?_
                    refine Wk.rPure 9 (some 73) (.bool true) rfl rfl (by kernel_rfl) (by kernel_rfl) ?_
                    refine Wk.rPure 10 (some 74) (.bool true) rfl rfl (by kernel_rfl) (by kernel_rfl) ?_
                    refine Wk.rPass 11 (some 75) rfl rfl (by kernel_rfl) ?_
                    refine Wk.rPass 12 (some 76) rfl rfl (by kernel_rfl) ?_
                    refine Wk.rPass 13 (some 77) rfl rfl (by kernel_rfl) ?_
                    refine Wk.rPass 14 (some 78) rfl rfl (by kernel_rfl) ?_
                    refine Wk.rPass 15 (some 79) rfl rfl (by kernel_rfl) ?_
                    refine Wk.rPass 16 (some 80) rfl rfl (by kernel_rfl) ?_
                    refine Wk.rPure 17 (some 81) (.bool true) rfl rfl (by kernel_rfl) (by kernel_rfl) ?_
                    refine Wk.rPure 18 (some 82) (.bool true) rfl rfl (by kernel_rfl) (by kernel_rfl) ?_
                    refine Wk.rPass 19 (some 83) rfl rfl (by kernel_rfl) ?_
                    refine Wk.rPass 20 (some 84) rfl rfl (by kernel_rfl) ?_
                    refine Wk.rPass 21 (some 85) rfl rfl (by kernel_rfl) ?_
                    refine Wk.rPass 22 (some 86) rfl rfl (by kernel_rfl) ?_
                    refine Wk.rPass 23 (some 87) rfl rfl (by kernel_rfl) ?_
                    refine Wk.rPass 24 (some 88) rfl rfl (by kernel_rfl) ?_
                    refine Wk.rPass 25 (some 89) rfl rfl (by kernel_rfl) ?_
                    refine Wk.rPass 26 (some 90) rfl rfl (by kernel_rfl) ?_
                    refine Wk.rPass 27 (some 91) rfl rfl (by kernel_rfl) ?_
                    refine Wk.rPure 28 (some 92) (.bool true) rfl rfl (by kernel_rfl) (by kernel_rfl) ?_
                    refine Wk.rEnd 29 rfl ?_
                    refine Wk.nxt ?_
                    refine wp_cond_true (by kernel_rfl) ?_
                    refine wp_seq ?_
                    refine Wk.reg ?_
                    refine Wk.rPure 0 (some 6) (.bool false) rfl rfl (by kernel_rfl) (by kernel_rfl) ?_
                    refine Wk.rEnd 1 rfl ?_
                    refine Wk.nxt ?_
                    refine wp_ret ?_
                    refine Wk.thR ?_
                    refine Wk.thR ?_
                    refine Wk.inR ?_
                    refine Wk.thR ?_
                    refine Wk.thR ?_
                    refine Wk.inR ?_
                    refine Wk.thR ?_
                    exfalso; first | omega | (have hq := htold rfl (by omega); simp at hq)
                  · refine Wk.rPure 5 (some 69) (.bool false) rfl rfl (by kernel_rfl) (Wk.boolF (b := decide (((k : Nat) : Int) ≥ ((most + budget) + 2))) (decide_eq_false (by first | exact hx9 | omega)) (by kernel_rfl)) ?_
                    refine Wk.rPure 6 (some 70) (.bool false) rfl rfl (by kernel_rfl) (by kernel_rfl) ?_
                    refine Wk.rPass 7 (some 71) rfl rfl (by kernel_rfl) ?_
                    refine Wk.rPass 8 (some 72) rfl rfl (by kernel_rfl) ?_
                    refine Wk.rPure 9 (some 73) (.bool false) rfl rfl (by kernel_rfl) (by kernel_rfl) ?_
                    refine Wk.rPure 10 (some 74) (.bool false) rfl rfl (by kernel_rfl) (by kernel_rfl) ?_
                    refine Wk.rPure 11 (some 75) (.int .i64 ran) rfl rfl (by kernel_rfl) (by kernel_rfl) ?_
                    by_cases hx10 : ran ≥ (0 : Int)
                    · refine Wk.rPure 12 (some 76) (.bool true) rfl rfl (by kernel_rfl) (Wk.boolT (b := decide (ran ≥ (0 : Int))) (decide_eq_true (by first | exact hx10 | omega)) (by kernel_rfl)) ?_
                      refine Wk.rPure 13 (some 77) (.bool true) rfl rfl (by kernel_rfl) (by kernel_rfl) ?_
                      refine Wk.rPure 14 (some 78) (.bool false) rfl rfl (by kernel_rfl) (by kernel_rfl) ?_
                      refine Wk.rPure 15 (some 79) (.bool true) rfl rfl (by kernel_rfl) (by kernel_rfl) ?_
                      refine Wk.rPure 16 (some 80) (.bool true) rfl rfl (by kernel_rfl) (by kernel_rfl) ?_
                      refine Wk.rPure 17 (some 81) (.bool true) rfl rfl (by kernel_rfl) (by kernel_rfl) ?_
                      refine Wk.rPure 18 (some 82) (.bool true) rfl rfl (by kernel_rfl) (by kernel_rfl) ?_
                      refine Wk.rPass 19 (some 83) rfl rfl (by kernel_rfl) ?_
                      refine Wk.rPass 20 (some 84) rfl rfl (by kernel_rfl) ?_
                      refine Wk.rPass 21 (some 85) rfl rfl (by kernel_rfl) ?_
                      refine Wk.rPass 22 (some 86) rfl rfl (by kernel_rfl) ?_
                      refine Wk.rPass 23 (some 87) rfl rfl (by kernel_rfl) ?_
                      refine Wk.rPass 24 (some 88) rfl rfl (by kernel_rfl) ?_
                      refine Wk.rPass 25 (some 89) rfl rfl (by kernel_rfl) ?_
                      refine Wk.rPass 26 (some 90) rfl rfl (by kernel_rfl) ?_
                      refine Wk.rPass 27 (some 91) rfl rfl (by kernel_rfl) ?_
                      refine Wk.rPure 28 (some 92) (.bool true) rfl rfl (by kernel_rfl) (by kernel_rfl) ?_
                      refine Wk.rEnd 29 rfl ?_
                      refine Wk.nxt ?_
                      refine wp_cond_true (by kernel_rfl) ?_
                      refine wp_seq ?_
                      refine Wk.reg ?_
                      refine Wk.rPure 0 (some 6) (.bool false) rfl rfl (by kernel_rfl) (by kernel_rfl) ?_
                      refine Wk.rEnd 1 rfl ?_
                      refine Wk.nxt ?_
                      refine wp_ret ?_
                      refine Wk.thR ?_
                      refine Wk.thR ?_
                      refine Wk.inR ?_
                      refine Wk.thR ?_
                      refine Wk.thR ?_
                      refine Wk.inR ?_
                      refine Wk.thR ?_
                      exfalso; first | omega | (have hq := htold rfl (by omega); simp at hq)
                    · refine Wk.rPure 12 (some 76) (.bool false) rfl rfl (by kernel_rfl) (Wk.boolF (b := decide (ran ≥ (0 : Int))) (decide_eq_false (by first | exact hx10 | omega)) (by kernel_rfl)) ?_
                      refine Wk.rPure 13 (some 77) (.bool false) rfl rfl (by kernel_rfl) (by kernel_rfl) ?_
                      refine Wk.rPass 14 (some 78) rfl rfl (by kernel_rfl) ?_
                      refine Wk.rPass 15 (some 79) rfl rfl (by kernel_rfl) ?_
                      refine Wk.rPure 16 (some 80) (.bool false) rfl rfl (by kernel_rfl) (by kernel_rfl) ?_
                      refine Wk.rPure 17 (some 81) (.bool false) rfl rfl (by kernel_rfl) (by kernel_rfl) ?_
                      refine Wk.rPure 18 (some 82) (.bool false) rfl rfl (by kernel_rfl) (by kernel_rfl) ?_
                      refine Wk.rPure 19 (some 83) (.pointer (some ⟨w.heap.size, 0, none⟩)) rfl rfl (by kernel_rfl) (by kernel_rfl) ?_
                      refine Wk.rCall 20 (some 84) 11 [.tmp 83] #[23] [.pointer (some ⟨w.heap.size, 0, none⟩)] rfl rfl (by kernel_rfl) rfl (by kernel_rfl) (by kernel_rfl) ?_
                      refine (Over_any t1 w.heap.size _ hu1).mono ?_
                      rintro _ _ ⟨rfl, rfl⟩
                      rw [hover]
                      rw [show (decide (4 ≤ (1 : Int))) = false from rfl]
                      refine ⟨_, rfl, ?_⟩
                      refine Wk.rPure 21 (some 85) (.int .u8 1) rfl rfl (by kernel_rfl) (by kernel_rfl) ?_
                      refine Wk.rPure 22 (some 86) (.bool false) rfl rfl (by kernel_rfl) (Wk.boolF (b := ((1 : Int) == (4 : Int))) (beq_eq_false_iff_ne.2 (by decide)) (by kernel_rfl)) ?_
                      refine Wk.rPure 23 (some 87) (.bool false) rfl rfl (by kernel_rfl) (by kernel_rfl) ?_
                      refine Wk.rPure 24 (some 88) (.int .u8 1) rfl rfl (by kernel_rfl) (by kernel_rfl) ?_
                      refine Wk.rPure 25 (some 89) (.bool false) rfl rfl (by kernel_rfl) (Wk.boolF (b := ((1 : Int) == (5 : Int))) (beq_eq_false_iff_ne.2 (by decide)) (by kernel_rfl)) ?_
                      refine Wk.rPure 26 (some 90) (.bool false) rfl rfl (by kernel_rfl) (by kernel_rfl) ?_
                      refine Wk.rPure 27 (some 91) (.bool false) rfl rfl (by kernel_rfl) (by kernel_rfl) ?_
                      refine Wk.rPure 28 (some 92) (.bool false) rfl rfl (by kernel_rfl) (by kernel_rfl) ?_
                      refine Wk.rEnd 29 rfl ?_
                      refine Wk.nxt ?_
                      refine wp_cond_false (by kernel_rfl) ?_
                      refine wp_skip ?_
                      refine Wk.nxt ?_
                      exact ⟨by kernel_rfl, rfl⟩
                · rintro aa5 _ ⟨hF5, rfl⟩
                  generalize aa5.tmps = bb5 at hF5
                  subst hF5
                  refine Wk.nxt ?_
                  refine wp_seq ?_
                  refine Wk.cut (fun a wj => a = EndsYes_J15_5 a.tmps (.int .i64 most) (.int .i64 budget) (.slice A n c) (.pointer (some ⟨w.heap.size, 0, none⟩)) (.int .i64 ran) (.int .i64 ((k : Nat) : Int)) (.int .u8 1) ∧ W9 = wj) ?_ ?_
                  · refine wp_seq ?_
                    refine Wk.reg ?_
                    refine Wk.rPure 0 (some 93) (.int .i64 ran) rfl rfl (by kernel_rfl) (by kernel_rfl) ?_
                    by_cases hx11 : ran ≥ (0 : Int)
                    · refine Wk.rPure 1 (some 94) (.bool true) rfl rfl (by kernel_rfl) (Wk.boolT (b := decide (ran ≥ (0 : Int))) (decide_eq_true (by first | exact hx11 | omega)) (by kernel_rfl)) ?_
                      refine Wk.rPure 2 (some 95) (.bool true) rfl rfl (by kernel_rfl) (by kernel_rfl) ?_
                      refine Wk.rPure 3 (some 96) (.pointer (some ⟨w.heap.size, 0, none⟩)) rfl rfl (by kernel_rfl) (by kernel_rfl) ?_
                      refine Wk.rCall 4 (some 97) 11 [.tmp 96] #[23] [.pointer (some ⟨w.heap.size, 0, none⟩)] rfl rfl (by kernel_rfl) rfl (by kernel_rfl) (by kernel_rfl) ?_
                      refine (Over_any t1 w.heap.size _ hu1).mono ?_
                      rintro _ _ ⟨rfl, rfl⟩
                      rw [hover]
                      rw [show (decide (4 ≤ (1 : Int))) = false from rfl]
                      refine ⟨_, rfl, ?_⟩
                      refine Wk.rPure 5 (some 98) (.bool true) rfl rfl (by kernel_rfl) (by kernel_rfl) ?_
                      refine Wk.rPure 6 (some 99) (.bool true) rfl rfl (by kernel_rfl) (by kernel_rfl) ?_
                      refine Wk.rPure 7 (some 100) (.bool true) rfl rfl (by kernel_rfl) (by kernel_rfl) ?_
                      refine Wk.rPure 8 (some 101) (.pointer (some ⟨W5.heap.size, 6, none⟩)) rfl rfl (by kernel_rfl) (by kernel_rfl) ?_
                      refine Wk.rPure 9 (some 102) (.bool c6) rfl rfl (by kernel_rfl) (Wk.load1 4 (.tmp 101) rfl (by kernel_rfl) ⟨W5.heap.size, 6, none⟩ (by kernel_rfl) (.bool c6) ((cell_of_row _ _ 6 _ _ _ (Wk.Chg.hp ch8 hfb ⟨by omega, trivial⟩)).trans rfl)) ?_
                      refine Wk.rPure 10 (some 103) (.bool c6) rfl rfl (by kernel_rfl) (by kernel_rfl) ?_
                      cases c6
                      · refine Wk.rPure 11 (some 104) (.pointer (some ⟨W5.heap.size, 7, none⟩)) rfl rfl (by kernel_rfl) (by kernel_rfl) ?_
                        refine Wk.rPure 12 (some 105) (.bool c7) rfl rfl (by kernel_rfl) (Wk.load1 4 (.tmp 104) rfl (by kernel_rfl) ⟨W5.heap.size, 7, none⟩ (by kernel_rfl) (.bool c7) ((cell_of_row _ _ 7 _ _ _ (Wk.Chg.hp ch8 hfb ⟨by omega, trivial⟩)).trans rfl)) ?_
                        refine Wk.rPure 13 (some 106) (.bool c7) rfl rfl (by kernel_rfl) (by kernel_rfl) ?_
                        refine Wk.rPure 14 (some 107) (.bool c7) rfl rfl (by kernel_rfl) (by kernel_rfl) ?_
                        cases c7
                        · refine Wk.rPure 15 (some 108) (.pointer (some ⟨W5.heap.size, 0, none⟩)) rfl rfl (by kernel_rfl) (by kernel_rfl) ?_
                          refine Wk.rPure 16 (some 109) (.bool c0) rfl rfl (by kernel_rfl) (Wk.load1 4 (.tmp 108) rfl (by kernel_rfl) ⟨W5.heap.size, 0, none⟩ (by kernel_rfl) (.bool c0) ((cell_of_row _ _ 0 _ _ _ (Wk.Chg.hp ch8 hfb ⟨by omega, trivial⟩)).trans rfl)) ?_
                          refine Wk.rPure 17 (some 110) (.bool c0) rfl rfl (by kernel_rfl) (by kernel_rfl) ?_
                          refine Wk.rPure 18 (some 111) (.bool c0) rfl rfl (by kernel_rfl) (by kernel_rfl) ?_
                          refine Wk.rEnd 19 rfl ?_
                          refine Wk.nxt ?_
                          cases c0
                          · refine wp_cond_false (by kernel_rfl) ?_
                            refine wp_skip ?_
                            refine Wk.nxt ?_
                            exact ⟨by kernel_rfl, rfl⟩
                          · refine wp_cond_true (by kernel_rfl) ?_
                            refine wp_seq ?_
                            refine Wk.reg ?_
                            refine Wk.rPure 0 (some 6) (.bool false) rfl rfl (by kernel_rfl) (by kernel_rfl) ?_
                            refine Wk.rEnd 1 rfl ?_
                            refine Wk.nxt ?_
                            refine wp_ret ?_
                            refine Wk.thR ?_
                            refine Wk.thR ?_
                            refine Wk.inR ?_
                            refine Wk.thR ?_
                            refine Wk.thR ?_
                            refine Wk.inR ?_
                            refine Wk.thR ?_
                            exfalso; first | omega | (have hq := htold rfl (by omega); simp at hq)
                        · refine Wk.rPass 15 (some 108) rfl rfl (by kernel_rfl) ?_
                          refine Wk.rPass 16 (some 109) rfl rfl (by kernel_rfl) ?_
                          refine Wk.rPure 17 (some 110) (.bool true) rfl rfl (by kernel_rfl) (by kernel_rfl) ?_
                          refine Wk.rPure 18 (some 111) (.bool true) rfl rfl (by kernel_rfl) (by kernel_rfl) ?_
                          refine Wk.rEnd 19 rfl ?_
                          refine Wk.nxt ?_
                          refine wp_cond_true (by kernel_rfl) ?_
                          refine wp_seq ?_
                          refine Wk.reg ?_
                          refine Wk.rPure 0 (some 6) (.bool false) rfl rfl (by kernel_rfl) (by kernel_rfl) ?_
                          refine Wk.rEnd 1 rfl ?_
                          refine Wk.nxt ?_
                          refine wp_ret ?_
                          refine Wk.thR ?_
                          refine Wk.thR ?_
                          refine Wk.inR ?_
                          refine Wk.thR ?_
                          refine Wk.thR ?_
                          refine Wk.inR ?_
                          refine Wk.thR ?_
                          exfalso; first | omega | (have hq := htold rfl (by omega); simp at hq)
                      · refine Wk.rPass 11 (some 104) rfl rfl (by kernel_rfl) ?_
                        refine Wk.rPass 12 (some 105) rfl rfl (by kernel_rfl) ?_
                        refine Wk.rPure 13 (some 106) (.bool true) rfl rfl (by kernel_rfl) (by kernel_rfl) ?_
                        refine Wk.rPure 14 (some 107) (.bool true) rfl rfl (by kernel_rfl) (by kernel_rfl) ?_
                        refine Wk.rPass 15 (some 108) rfl rfl (by kernel_rfl) ?_
                        refine Wk.rPass 16 (some 109) rfl rfl (by kernel_rfl) ?_
                        refine Wk.rPure 17 (some 110) (.bool true) rfl rfl (by kernel_rfl) (by kernel_rfl) ?_
                        refine Wk.rPure 18 (some 111) (.bool true) rfl rfl (by kernel_rfl) (by kernel_rfl) ?_
                        refine Wk.rEnd 19 rfl ?_
                        refine Wk.nxt ?_
                        refine wp_cond_true (by kernel_rfl) ?_
                        refine wp_seq ?_
                        refine Wk.reg ?_
                        refine Wk.rPure 0 (some 6) (.bool false) rfl rfl (by kernel_rfl) (by kernel_rfl) ?_
                        refine Wk.rEnd 1 rfl ?_
                        refine Wk.nxt ?_
                        refine wp_ret ?_
                        refine Wk.thR ?_
                        refine Wk.thR ?_
                        refine Wk.inR ?_
                        refine Wk.thR ?_
                        refine Wk.thR ?_
                        refine Wk.inR ?_
                        refine Wk.thR ?_
                        exfalso; first | omega | (have hq := htold rfl (by omega); simp at hq)
                    · refine Wk.rPure 1 (some 94) (.bool false) rfl rfl (by kernel_rfl) (Wk.boolF (b := decide (ran ≥ (0 : Int))) (decide_eq_false (by first | exact hx11 | omega)) (by kernel_rfl)) ?_
                      refine Wk.rPure 2 (some 95) (.bool false) rfl rfl (by kernel_rfl) (by kernel_rfl) ?_
                      refine Wk.rPass 3 (some 96) rfl rfl (by kernel_rfl) ?_
                      refine Wk.rPass 4 (some 97) rfl rfl (by kernel_rfl) ?_
                      refine Wk.rPass 5 (some 98) rfl rfl (by kernel_rfl) ?_
                      refine Wk.rPure 6 (some 99) (.bool false) rfl rfl (by kernel_rfl) (by kernel_rfl) ?_
                      refine Wk.rPure 7 (some 100) (.bool false) rfl rfl (by kernel_rfl) (by kernel_rfl) ?_
                      refine Wk.rPass 8 (some 101) rfl rfl (by kernel_rfl) ?_
                      refine Wk.rPass 9 (some 102) rfl rfl (by kernel_rfl) ?_
                      refine Wk.rPass 10 (some 103) rfl rfl (by kernel_rfl) ?_
                      refine Wk.rPass 11 (some 104) rfl rfl (by kernel_rfl) ?_
                      refine Wk.rPass 12 (some 105) rfl rfl (by kernel_rfl) ?_
                      refine Wk.rPass 13 (some 106) rfl rfl (by kernel_rfl) ?_
                      refine Wk.rPass 14 (some 107) rfl rfl (by kernel_rfl) ?_
                      refine Wk.rPass 15 (some 108) rfl rfl (by kernel_rfl) ?_
                      refine Wk.rPass 16 (some 109) rfl rfl (by kernel_rfl) ?_
                      refine Wk.rPass 17 (some 110) rfl rfl (by kernel_rfl) ?_
                      refine Wk.rPure 18 (some 111) (.bool false) rfl rfl (by kernel_rfl) (by kernel_rfl) ?_
                      refine Wk.rEnd 19 rfl ?_
                      refine Wk.nxt ?_
                      refine wp_cond_false (by kernel_rfl) ?_
                      refine wp_skip ?_
                      refine Wk.nxt ?_
                      exact ⟨by kernel_rfl, rfl⟩
                  · rintro aa6 _ ⟨hF6, rfl⟩
                    generalize aa6.tmps = bb6 at hF6
                    subst hF6
                    refine Wk.nxt ?_
                    refine wp_seq ?_
                    refine Wk.reg ?_
                    refine Wk.rPure 0 (some 112) (.int .u8 1) rfl rfl (by kernel_rfl) (by kernel_rfl) ?_
                    refine Wk.rPure 1 (some 113) (.bool false) rfl rfl (by kernel_rfl) (Wk.boolF (b := ((1 : Int) == (3 : Int))) (beq_eq_false_iff_ne.2 (by decide)) (by kernel_rfl)) ?_
                    refine Wk.rPure 2 (some 114) (.bool false) rfl rfl (by kernel_rfl) (by kernel_rfl) ?_
                    refine Wk.rPass 3 (some 115) rfl rfl (by kernel_rfl) ?_
                    refine Wk.rPass 4 (some 116) rfl rfl (by kernel_rfl) ?_
                    refine Wk.rPure 5 (some 117) (.bool false) rfl rfl (by kernel_rfl) (by kernel_rfl) ?_
                    refine Wk.rEnd 6 rfl ?_
                    refine Wk.nxt ?_
                    refine wp_cond_false (by kernel_rfl) ?_
                    refine wp_skip ?_
                    refine Wk.inN ?_
                    refine Wk.nxt ?_
                    refine Wk.reg ?_
                    refine Wk.rPure 0 (some 38) (.int .i64 ((k : Nat) : Int)) rfl rfl (by kernel_rfl) (by kernel_rfl) ?_
                    refine Wk.rPure 1 (some 39) (.int .i64 ((k + 1 : Nat) : Int)) rfl rfl (by kernel_rfl) (Wk.int64 (n := ((k : Nat) : Int) + 1) (z := ((k + 1 : Nat) : Int)) (by omega) (by omega) (by omega) (by kernel_rfl)) ?_
                    refine Wk.rPure 2 (some 9) (.int .i64 ((k + 1 : Nat) : Int)) rfl rfl (by kernel_rfl) (by kernel_rfl) ?_
                    refine Wk.rEnd 3 rfl ?_
                    refine Wk.nxt ?_
                    have kk12 := Wk.Chg.step HB ch5 trivial
                    have kk13 := Wk.Chg.step kk12 ch7 ⟨.inr (by omega), trivial⟩
                    have kk14 := Wk.Chg.step kk13 ch8 ⟨.inr (by omega), trivial⟩
                    refine ⟨_, ?_, k + 1, t1, ran, rfl, by kernel_rfl, (by omega), hu1, (by first | exact hinv | (rw [if_pos ⟨rfl, by omega⟩] at hinv; exact hinv) | (rw [if_neg (by omega)] at hinv; exact hinv)), kk14⟩
                    · omega
              · obtain ⟨he1, he2⟩ := hearly (by decide)
                refine ⟨_, rfl, ?_⟩
                refine Wk.rPure 4 (some 11) (.int .u8 2) rfl rfl (by kernel_rfl) (by kernel_rfl) ?_
                refine Wk.rEnd 5 rfl ?_
                refine Wk.nxt ?_
                refine wp_seq ?_
                refine Wk.reg ?_
                refine Wk.rPure 0 (some 54) (.int .u8 2) rfl rfl (by kernel_rfl) (by kernel_rfl) ?_
                refine Wk.rPure 1 (some 55) (.bool false) rfl rfl (by kernel_rfl) (Wk.boolF (b := ((2 : Int) == (3 : Int))) (beq_eq_false_iff_ne.2 (by decide)) (by kernel_rfl)) ?_
                refine Wk.rPure 2 (some 56) (.bool false) rfl rfl (by kernel_rfl) (by kernel_rfl) ?_
                refine Wk.rPure 3 (some 57) (.int .u8 2) rfl rfl (by kernel_rfl) (by kernel_rfl) ?_
                refine Wk.rPure 4 (some 58) (.bool false) rfl rfl (by kernel_rfl) (Wk.boolF (b := ((2 : Int) == (4 : Int))) (beq_eq_false_iff_ne.2 (by decide)) (by kernel_rfl)) ?_
                refine Wk.rPure 5 (some 59) (.bool false) rfl rfl (by kernel_rfl) (by kernel_rfl) ?_
                refine Wk.rPure 6 (some 60) (.bool false) rfl rfl (by kernel_rfl) (by kernel_rfl) ?_
                refine Wk.rPure 7 (some 61) (.int .u8 2) rfl rfl (by kernel_rfl) (by kernel_rfl) ?_
                refine Wk.rPure 8 (some 62) (.bool false) rfl rfl (by kernel_rfl) (Wk.boolF (b := ((2 : Int) == (5 : Int))) (beq_eq_false_iff_ne.2 (by decide)) (by kernel_rfl)) ?_
                refine Wk.rPure 9 (some 63) (.bool false) rfl rfl (by kernel_rfl) (by kernel_rfl) ?_
                refine Wk.rPure 10 (some 12) (.bool false) rfl rfl (by kernel_rfl) (by kernel_rfl) ?_
                refine Wk.rEnd 11 rfl ?_
                refine Wk.nxt ?_
                refine wp_seq ?_
                refine Wk.cut (fun a wj => a = EndsYes_J13_6 a.tmps (.int .i64 most) (.int .i64 budget) (.slice A n c) (.pointer (some ⟨w.heap.size, 0, none⟩)) (.int .i64 ran) (.int .i64 ((k : Nat) : Int)) (.pointer (some ⟨W5.heap.size, 0, none⟩)) (.int .u8 2) ∧ W9 = wj) ?_ ?_
                · refine wp_seq ?_
                  refine Wk.reg ?_
                  refine Wk.rPure 0 (some 64) (.int .i64 ((k : Nat) : Int)) rfl rfl (by kernel_rfl) (by kernel_rfl) ?_
                  refine Wk.rPure 1 (some 65) (.int .i64 most) rfl rfl (by kernel_rfl) (by kernel_rfl) ?_
                  refine Wk.rPure 2 (some 66) (.int .i64 budget) rfl rfl (by kernel_rfl) (by kernel_rfl) ?_
                  refine Wk.rPure 3 (some 67) (.int .i64 (most + budget)) rfl rfl (by kernel_rfl) (Wk.int64 (n := most + budget) (z := most + budget) (by omega) (by omega) (by omega) (by kernel_rfl)) ?_
                  refine Wk.rPure 4 (some 68) (.int .i64 ((most + budget) + 2)) rfl rfl (by kernel_rfl) (Wk.int64 (n := (most + budget) + 2) (z := (most + budget) + 2) (by omega) (by omega) (by omega) (by kernel_rfl)) ?_
                  by_cases hx12 : ((k : Nat) : Int) ≥ ((most + budget) + 2)
                  · refine Wk.rPure 5 (some 69) (.bool true) rfl rfl (by kernel_rfl) (Wk.boolT (b := decide (((k : Nat) : Int) ≥ ((most + budget) + 2))) (decide_eq_true (by first | exact hx12 | omega)) (by kernel_rfl)) ?_
                    refine Wk.rPure 6 (some 70) (.bool true) rfl rfl (by kernel_rfl) (by kernel_rfl) ?_
                    refine Wk.rPure 7 (some 71) (.bool false) rfl rfl (by kernel_rfl) (by kernel_rfl) ?_
                    refine Wk.rPure 8 (some 72) (.bool true) rfl rfl (by kernel_rfl) (by kernel_rfl) ?_
                    refine Wk.rPure 9 (some 73) (.bool true) rfl rfl (by kernel_rfl) (by kernel_rfl) ?_
                    refine Wk.rPure 10 (some 74) (.bool true) rfl rfl (by kernel_rfl) (by kernel_rfl) ?_
                    refine Wk.rPass 11 (some 75) rfl rfl (by kernel_rfl) ?_
                    refine Wk.rPass 12 (some 76) rfl rfl (by kernel_rfl) ?_
                    refine Wk.rPass 13 (some 77) rfl rfl (by kernel_rfl) ?_
                    refine Wk.rPass 14 (some 78) rfl rfl (by kernel_rfl) ?_
                    refine Wk.rPass 15 (some 79) rfl rfl (by kernel_rfl) ?_
                    refine Wk.rPass 16 (some 80) rfl rfl (by kernel_rfl) ?_
                    refine Wk.rPure 17 (some 81) (.bool true) rfl rfl (by kernel_rfl) (by kernel_rfl) ?_
                    refine Wk.rPure 18 (some 82) (.bool true) rfl rfl (by kernel_rfl) (by kernel_rfl) ?_
                    refine Wk.rPass 19 (some 83) rfl rfl (by kernel_rfl) ?_
                    refine Wk.rPass 20 (some 84) rfl rfl (by kernel_rfl) ?_
                    refine Wk.rPass 21 (some 85) rfl rfl (by kernel_rfl) ?_
                    refine Wk.rPass 22 (some 86) rfl rfl (by kernel_rfl) ?_
                    refine Wk.rPass 23 (some 87) rfl rfl (by kernel_rfl) ?_
                    refine Wk.rPass 24 (some 88) rfl rfl (by kernel_rfl) ?_
                    refine Wk.rPass 25 (some 89) rfl rfl (by kernel_rfl) ?_
                    refine Wk.rPass 26 (some 90) rfl rfl (by kernel_rfl) ?_
                    refine Wk.rPass 27 (some 91) rfl rfl (by kernel_rfl) ?_
                    refine Wk.rPure 28 (some 92) (.bool true) rfl rfl (by kernel_rfl) (by kernel_rfl) ?_
                    refine Wk.rEnd 29 rfl ?_
                    refine Wk.nxt ?_
                    refine wp_cond_true (by kernel_rfl) ?_
                    refine wp_seq ?_
                    refine Wk.reg ?_
                    refine Wk.rPure 0 (some 6) (.bool false) rfl rfl (by kernel_rfl) (by kernel_rfl) ?_
                    refine Wk.rEnd 1 rfl ?_
                    refine Wk.nxt ?_
                    refine wp_ret ?_
                    refine Wk.thR ?_
                    refine Wk.thR ?_
                    refine Wk.inR ?_
                    refine Wk.thR ?_
                    refine Wk.thR ?_
                    refine Wk.inR ?_
                    refine Wk.thR ?_
                    exfalso; first | omega | (have hq := htold rfl (by omega); simp at hq)
                  · refine Wk.rPure 5 (some 69) (.bool false) rfl rfl (by kernel_rfl) (Wk.boolF (b := decide (((k : Nat) : Int) ≥ ((most + budget) + 2))) (decide_eq_false (by first | exact hx12 | omega)) (by kernel_rfl)) ?_
                    refine Wk.rPure 6 (some 70) (.bool false) rfl rfl (by kernel_rfl) (by kernel_rfl) ?_
                    refine Wk.rPass 7 (some 71) rfl rfl (by kernel_rfl) ?_
                    refine Wk.rPass 8 (some 72) rfl rfl (by kernel_rfl) ?_
                    refine Wk.rPure 9 (some 73) (.bool false) rfl rfl (by kernel_rfl) (by kernel_rfl) ?_
                    refine Wk.rPure 10 (some 74) (.bool false) rfl rfl (by kernel_rfl) (by kernel_rfl) ?_
                    refine Wk.rPure 11 (some 75) (.int .i64 ran) rfl rfl (by kernel_rfl) (by kernel_rfl) ?_
                    by_cases hx13 : ran ≥ (0 : Int)
                    · refine Wk.rPure 12 (some 76) (.bool true) rfl rfl (by kernel_rfl) (Wk.boolT (b := decide (ran ≥ (0 : Int))) (decide_eq_true (by first | exact hx13 | omega)) (by kernel_rfl)) ?_
                      refine Wk.rPure 13 (some 77) (.bool true) rfl rfl (by kernel_rfl) (by kernel_rfl) ?_
                      refine Wk.rPure 14 (some 78) (.bool false) rfl rfl (by kernel_rfl) (by kernel_rfl) ?_
                      refine Wk.rPure 15 (some 79) (.bool true) rfl rfl (by kernel_rfl) (by kernel_rfl) ?_
                      refine Wk.rPure 16 (some 80) (.bool true) rfl rfl (by kernel_rfl) (by kernel_rfl) ?_
                      refine Wk.rPure 17 (some 81) (.bool true) rfl rfl (by kernel_rfl) (by kernel_rfl) ?_
                      refine Wk.rPure 18 (some 82) (.bool true) rfl rfl (by kernel_rfl) (by kernel_rfl) ?_
                      refine Wk.rPass 19 (some 83) rfl rfl (by kernel_rfl) ?_
                      refine Wk.rPass 20 (some 84) rfl rfl (by kernel_rfl) ?_
                      refine Wk.rPass 21 (some 85) rfl rfl (by kernel_rfl) ?_
                      refine Wk.rPass 22 (some 86) rfl rfl (by kernel_rfl) ?_
                      refine Wk.rPass 23 (some 87) rfl rfl (by kernel_rfl) ?_
                      refine Wk.rPass 24 (some 88) rfl rfl (by kernel_rfl) ?_
                      refine Wk.rPass 25 (some 89) rfl rfl (by kernel_rfl) ?_
                      refine Wk.rPass 26 (some 90) rfl rfl (by kernel_rfl) ?_
                      refine Wk.rPass 27 (some 91) rfl rfl (by kernel_rfl) ?_
                      refine Wk.rPure 28 (some 92) (.bool true) rfl rfl (by kernel_rfl) (by kernel_rfl) ?_
                      refine Wk.rEnd 29 rfl ?_
                      refine Wk.nxt ?_
                      refine wp_cond_true (by kernel_rfl) ?_
                      refine wp_seq ?_
                      refine Wk.reg ?_
                      refine Wk.rPure 0 (some 6) (.bool false) rfl rfl (by kernel_rfl) (by kernel_rfl) ?_
                      refine Wk.rEnd 1 rfl ?_
                      refine Wk.nxt ?_
                      refine wp_ret ?_
                      refine Wk.thR ?_
                      refine Wk.thR ?_
                      refine Wk.inR ?_
                      refine Wk.thR ?_
                      refine Wk.thR ?_
                      refine Wk.inR ?_
                      refine Wk.thR ?_
                      exfalso; first | omega | (have hq := htold rfl (by omega); simp at hq)
                    · refine Wk.rPure 12 (some 76) (.bool false) rfl rfl (by kernel_rfl) (Wk.boolF (b := decide (ran ≥ (0 : Int))) (decide_eq_false (by first | exact hx13 | omega)) (by kernel_rfl)) ?_
                      refine Wk.rPure 13 (some 77) (.bool false) rfl rfl (by kernel_rfl) (by kernel_rfl) ?_
                      refine Wk.rPass 14 (some 78) rfl rfl (by kernel_rfl) ?_
                      refine Wk.rPass 15 (some 79) rfl rfl (by kernel_rfl) ?_
                      refine Wk.rPure 16 (some 80) (.bool false) rfl rfl (by kernel_rfl) (by kernel_rfl) ?_
                      refine Wk.rPure 17 (some 81) (.bool false) rfl rfl (by kernel_rfl) (by kernel_rfl) ?_
                      refine Wk.rPure 18 (some 82) (.bool false) rfl rfl (by kernel_rfl) (by kernel_rfl) ?_
                      refine Wk.rPure 19 (some 83) (.pointer (some ⟨w.heap.size, 0, none⟩)) rfl rfl (by kernel_rfl) (by kernel_rfl) ?_
                      refine Wk.rCall 20 (some 84) 11 [.tmp 83] #[23] [.pointer (some ⟨w.heap.size, 0, none⟩)] rfl rfl (by kernel_rfl) rfl (by kernel_rfl) (by kernel_rfl) ?_
                      refine (Over_any t1 w.heap.size _ hu1).mono ?_
                      rintro _ _ ⟨rfl, rfl⟩
                      rw [hover]
                      rw [show (decide (4 ≤ (2 : Int))) = false from rfl]
                      refine ⟨_, rfl, ?_⟩
                      refine Wk.rPure 21 (some 85) (.int .u8 2) rfl rfl (by kernel_rfl) (by kernel_rfl) ?_
                      refine Wk.rPure 22 (some 86) (.bool false) rfl rfl (by kernel_rfl) (Wk.boolF (b := ((2 : Int) == (4 : Int))) (beq_eq_false_iff_ne.2 (by decide)) (by kernel_rfl)) ?_
                      refine Wk.rPure 23 (some 87) (.bool false) rfl rfl (by kernel_rfl) (by kernel_rfl) ?_
                      refine Wk.rPure 24 (some 88) (.int .u8 2) rfl rfl (by kernel_rfl) (by kernel_rfl) ?_
                      refine Wk.rPure 25 (some 89) (.bool false) rfl rfl (by kernel_rfl) (Wk.boolF (b := ((2 : Int) == (5 : Int))) (beq_eq_false_iff_ne.2 (by decide)) (by kernel_rfl)) ?_
                      refine Wk.rPure 26 (some 90) (.bool false) rfl rfl (by kernel_rfl) (by kernel_rfl) ?_
                      refine Wk.rPure 27 (some 91) (.bool false) rfl rfl (by kernel_rfl) (by kernel_rfl) ?_
                      refine Wk.rPure 28 (some 92) (.bool false) rfl rfl (by kernel_rfl) (by kernel_rfl) ?_
                      refine Wk.rEnd 29 rfl ?_
                      refine Wk.nxt ?_
                      refine wp_cond_false (by kernel_rfl) ?_
                      refine wp_skip ?_
                      refine Wk.nxt ?_
                      exact ⟨by kernel_rfl, rfl⟩
                · rintro aa7 _ ⟨hF7, rfl⟩
                  generalize aa7.tmps = bb7 at hF7
                  subst hF7
                  refine Wk.nxt ?_
                  refine wp_seq ?_
                  refine Wk.cut (fun a wj => a = EndsYes_J15_7 a.tmps (.int .i64 most) (.int .i64 budget) (.slice A n c) (.pointer (some ⟨w.heap.size, 0, none⟩)) (.int .i64 ran) (.int .i64 ((k : Nat) : Int)) (.int .u8 2) ∧ W9 = wj) ?_ ?_
                  · refine wp_seq ?_
                    refine Wk.reg ?_
                    refine Wk.rPure 0 (some 93) (.int .i64 ran) rfl rfl (by kernel_rfl) (by kernel_rfl) ?_
                    by_cases hx14 : ran ≥ (0 : Int)
                    · refine Wk.rPure 1 (some 94) (.bool true) rfl rfl (by kernel_rfl) (Wk.boolT (b := decide (ran ≥ (0 : Int))) (decide_eq_true (by first | exact hx14 | omega)) (by kernel_rfl)) ?_
                      refine Wk.rPure 2 (some 95) (.bool true) rfl rfl (by kernel_rfl) (by kernel_rfl) ?_
                      refine Wk.rPure 3 (some 96) (.pointer (some ⟨w.heap.size, 0, none⟩)) rfl rfl (by kernel_rfl) (by kernel_rfl) ?_
                      refine Wk.rCall 4 (some 97) 11 [.tmp 96] #[23] [.pointer (some ⟨w.heap.size, 0, none⟩)] rfl rfl (by kernel_rfl) rfl (by kernel_rfl) (by kernel_rfl) ?_
                      refine (Over_any t1 w.heap.size _ hu1).mono ?_
                      rintro _ _ ⟨rfl, rfl⟩
                      rw [hover]
                      rw [show (decide (4 ≤ (2 : Int))) = false from rfl]
                      refine ⟨_, rfl, ?_⟩
                      refine Wk.rPure 5 (some 98) (.bool true) rfl rfl (by kernel_rfl) (by kernel_rfl) ?_
                      refine Wk.rPure 6 (some 99) (.bool true) rfl rfl (by kernel_rfl) (by kernel_rfl) ?_
                      refine Wk.rPure 7 (some 100) (.bool true) rfl rfl (by kernel_rfl) (by kernel_rfl) ?_
                      refine Wk.rPure 8 (some 101) (.pointer (some ⟨W5.heap.size, 6, none⟩)) rfl rfl (by kernel_rfl) (by kernel_rfl) ?_
                      refine Wk.rPure 9 (some 102) (.bool c6) rfl rfl (by kernel_rfl) (Wk.load1 4 (.tmp 101) rfl (by kernel_rfl) ⟨W5.heap.size, 6, none⟩ (by kernel_rfl) (.bool c6) ((cell_of_row _ _ 6 _ _ _ (Wk.Chg.hp ch8 hfb ⟨by omega, trivial⟩)).trans rfl)) ?_
                      refine Wk.rPure 10 (some 103) (.bool c6) rfl rfl (by kernel_rfl) (by kernel_rfl) ?_
                      cases c6
                      · refine Wk.rPure 11 (some 104) (.pointer (some ⟨W5.heap.size, 7, none⟩)) rfl rfl (by kernel_rfl) (by kernel_rfl) ?_
                        refine Wk.rPure 12 (some 105) (.bool c7) rfl rfl (by kernel_rfl) (Wk.load1 4 (.tmp 104) rfl (by kernel_rfl) ⟨W5.heap.size, 7, none⟩ (by kernel_rfl) (.bool c7) ((cell_of_row _ _ 7 _ _ _ (Wk.Chg.hp ch8 hfb ⟨by omega, trivial⟩)).trans rfl)) ?_
                        refine Wk.rPure 13 (some 106) (.bool c7) rfl rfl (by kernel_rfl) (by kernel_rfl) ?_
                        refine Wk.rPure 14 (some 107) (.bool c7) rfl rfl (by kernel_rfl) (by kernel_rfl) ?_
                        cases c7
                        · refine Wk.rPure 15 (some 108) (.pointer (some ⟨W5.heap.size, 0, none⟩)) rfl rfl (by kernel_rfl) (by kernel_rfl) ?_
                          refine Wk.rPure 16 (some 109) (.bool c0) rfl rfl (by kernel_rfl) (Wk.load1 4 (.tmp 108) rfl (by kernel_rfl) ⟨W5.heap.size, 0, none⟩ (by kernel_rfl) (.bool c0) ((cell_of_row _ _ 0 _ _ _ (Wk.Chg.hp ch8 hfb ⟨by omega, trivial⟩)).trans rfl)) ?_
                          refine Wk.rPure 17 (some 110) (.bool c0) rfl rfl (by kernel_rfl) (by kernel_rfl) ?_
                          refine Wk.rPure 18 (some 111) (.bool c0) rfl rfl (by kernel_rfl) (by kernel_rfl) ?_
                          refine Wk.rEnd 19 rfl ?_
                          refine Wk.nxt ?_
                          cases c0
                          · refine wp_cond_false (by kernel_rfl) ?_
                            refine wp_skip ?_
                            refine Wk.nxt ?_
                            exact ⟨by kernel_rfl, rfl⟩
                          · refine wp_cond_true (by kernel_rfl) ?_
                            refine wp_seq ?_
                            refine Wk.reg ?_
                            refine Wk.rPure 0 (some 6) (.bool false) rfl rfl (by kernel_rfl) (by kernel_rfl) ?_
                            refine Wk.rEnd 1 rfl ?_
                            refine Wk.nxt ?_
                            refine wp_ret ?_
                            refine Wk.thR ?_
                            refine Wk.thR ?_
                            refine Wk.inR ?_
                            refine Wk.thR ?_
                            refine Wk.thR ?_
                            refine Wk.inR ?_
                            refine Wk.thR ?_
                            exfalso; first | omega | (have hq := htold rfl (by omega); simp at hq)
                        · refine Wk.rPass 15 (some 108) rfl rfl (by kernel_rfl) ?_
                          refine Wk.rPass 16 (some 109) rfl rfl (by kernel_rfl) ?_
                          refine Wk.rPure 17 (some 110) (.bool true) rfl rfl (by kernel_rfl) (by kernel_rfl) ?_
                          refine Wk.rPure 18 (some 111) (.bool true) rfl rfl (by kernel_rfl) (by kernel_rfl) ?_
                          refine Wk.rEnd 19 rfl ?_
                          refine Wk.nxt ?_
                          refine wp_cond_true (by kernel_rfl) ?_
                          refine wp_seq ?_
                          refine Wk.reg ?_
                          refine Wk.rPure 0 (some 6) (.bool false) rfl rfl (by kernel_rfl) (by kernel_rfl) ?_
                          refine Wk.rEnd 1 rfl ?_
                          refine Wk.nxt ?_
                          refine wp_ret ?_
                          refine Wk.thR ?_
                          refine Wk.thR ?_
                          refine Wk.inR ?_
                          refine Wk.thR ?_
                          refine Wk.thR ?_
                          refine Wk.inR ?_
                          refine Wk.thR ?_
                          exfalso; first | omega | (have hq := htold rfl (by omega); simp at hq)
                      · refine Wk.rPass 11 (some 104) rfl rfl (by kernel_rfl) ?_
                        refine Wk.rPass 12 (some 105) rfl rfl (by kernel_rfl) ?_
                        refine Wk.rPure 13 (some 106) (.bool true) rfl rfl (by kernel_rfl) (by kernel_rfl) ?_
                        refine Wk.rPure 14 (some 107) (.bool true) rfl rfl (by kernel_rfl) (by kernel_rfl) ?_
                        refine Wk.rPass 15 (some 108) rfl rfl (by kernel_rfl) ?_
                        refine Wk.rPass 16 (some 109) rfl rfl (by kernel_rfl) ?_
                        refine Wk.rPure 17 (some 110) (.bool true) rfl rfl (by kernel_rfl) (by kernel_rfl) ?_
                        refine Wk.rPure 18 (some 111) (.bool true) rfl rfl (by kernel_rfl) (by kernel_rfl) ?_
                        refine Wk.rEnd 19 rfl ?_
                        refine Wk.nxt ?_
                        refine wp_cond_true (by kernel_rfl) ?_
                        refine wp_seq ?_
                        refine Wk.reg ?_
                        refine Wk.rPure 0 (some 6) (.bool false) rfl rfl (by kernel_rfl) (by kernel_rfl) ?_
                        refine Wk.rEnd 1 rfl ?_
                        refine Wk.nxt ?_
                        refine wp_ret ?_
                        refine Wk.thR ?_
                        refine Wk.thR ?_
                        refine Wk.inR ?_
                        refine Wk.thR ?_
                        refine Wk.thR ?_
                        refine Wk.inR ?_
                        refine Wk.thR ?_
                        exfalso; first | omega | (have hq := htold rfl (by omega); simp at hq)
                    · refine Wk.rPure 1 (some 94) (.bool false) rfl rfl (by kernel_rfl) (Wk.boolF (b := decide (ran ≥ (0 : Int))) (decide_eq_false (by first | exact hx14 | omega)) (by kernel_rfl)) ?_
                      refine Wk.rPure 2 (some 95) (.bool false) rfl rfl (by kernel_rfl) (by kernel_rfl) ?_
                      refine Wk.rPass 3 (some 96) rfl rfl (by kernel_rfl) ?_
                      refine Wk.rPass 4 (some 97) rfl rfl (by kernel_rfl) ?_
                      refine Wk.rPass 5 (some 98) rfl rfl (by kernel_rfl) ?_
                      refine Wk.rPure 6 (some 99) (.bool false) rfl rfl (by kernel_rfl) (by kernel_rfl) ?_
                      refine Wk.rPure 7 (some 100) (.bool false) rfl rfl (by kernel_rfl) (by kernel_rfl) ?_
                      refine Wk.rPass 8 (some 101) rfl rfl (by kernel_rfl) ?_
                      refine Wk.rPass 9 (some 102) rfl rfl (by kernel_rfl) ?_
                      refine Wk.rPass 10 (some 103) rfl rfl (by kernel_rfl) ?_
                      refine Wk.rPass 11 (some 104) rfl rfl (by kernel_rfl) ?_
                      refine Wk.rPass 12 (some 105) rfl rfl (by kernel_rfl) ?_
                      refine Wk.rPass 13 (some 106) rfl rfl (by kernel_rfl) ?_
                      refine Wk.rPass 14 (some 107) rfl rfl (by kernel_rfl) ?_
                      refine Wk.rPass 15 (some 108) rfl rfl (by kernel_rfl) ?_
                      refine Wk.rPass 16 (some 109) rfl rfl (by kernel_rfl) ?_
                      refine Wk.rPass 17 (some 110) rfl rfl (by kernel_rfl) ?_
                      refine Wk.rPure 18 (some 111) (.bool false) rfl rfl (by kernel_rfl) (by kernel_rfl) ?_
                      refine Wk.rEnd 19 rfl ?_
                      refine Wk.nxt ?_
                      refine wp_cond_false (by kernel_rfl) ?_
                      refine wp_skip ?_
                      refine Wk.nxt ?_
                      exact ⟨by kernel_rfl, rfl⟩
                  · rintro aa8 _ ⟨hF8, rfl⟩
                    generalize aa8.tmps = bb8 at hF8
                    subst hF8
                    refine Wk.nxt ?_
                    refine wp_seq ?_
                    refine Wk.reg ?_
                    refine Wk.rPure 0 (some 112) (.int .u8 2) rfl rfl (by kernel_rfl) (by kernel_rfl) ?_
                    refine Wk.rPure 1 (some 113) (.bool false) rfl rfl (by kernel_rfl) (Wk.boolF (b := ((2 : Int) == (3 : Int))) (beq_eq_false_iff_ne.2 (by decide)) (by kernel_rfl)) ?_
                    refine Wk.rPure 2 (some 114) (.bool false) rfl rfl (by kernel_rfl) (by kernel_rfl) ?_
                    refine Wk.rPass 3 (some 115) rfl rfl (by kernel_rfl) ?_
                    refine Wk.rPass 4 (some 116) rfl rfl (by kernel_rfl) ?_
                    refine Wk.rPure 5 (some 117) (.bool false) rfl rfl (by kernel_rfl) (by kernel_rfl) ?_
                    refine Wk.rEnd 6 rfl ?_
                    refine Wk.nxt ?_
                    refine wp_cond_false (by kernel_rfl) ?_
                    refine wp_skip ?_
                    refine Wk.inN ?_
                    refine Wk.nxt ?_
                    refine Wk.reg ?_
                    refine Wk.rPure 0 (some 38) (.int .i64 ((k : Nat) : Int)) rfl rfl (by kernel_rfl) (by kernel_rfl) ?_
                    refine Wk.rPure 1 (some 39) (.int .i64 ((k + 1 : Nat) : Int)) rfl rfl (by kernel_rfl) (Wk.int64 (n := ((k : Nat) : Int) + 1) (z := ((k + 1 : Nat) : Int)) (by omega) (by omega) (by omega) (by kernel_rfl)) ?_
                    refine Wk.rPure 2 (some 9) (.int .i64 ((k + 1 : Nat) : Int)) rfl rfl (by kernel_rfl) (by kernel_rfl) ?_
                    refine Wk.rEnd 3 rfl ?_
                    refine Wk.nxt ?_
                    have kk15 := Wk.Chg.step HB ch5 trivial
                    have kk16 := Wk.Chg.step kk15 ch7 ⟨.inr (by omega), trivial⟩
                    have kk17 := Wk.Chg.step kk16 ch8 ⟨.inr (by omega), trivial⟩
                    refine ⟨_, ?_, k + 1, t1, ran, rfl, by kernel_rfl, (by omega), hu1, (by first | exact hinv | (rw [if_pos ⟨rfl, by omega⟩] at hinv; exact hinv) | (rw [if_neg (by omega)] at hinv; exact hinv)), kk17⟩
                    · omega
              · refine ⟨_, rfl, ?_⟩
                refine Wk.rPure 4 (some 11) (.int .u8 3) rfl rfl (by kernel_rfl) (by kernel_rfl) ?_
                refine Wk.rEnd 5 rfl ?_
                refine Wk.nxt ?_
                refine wp_seq ?_
                refine Wk.reg ?_
                refine Wk.rPure 0 (some 54) (.int .u8 3) rfl rfl (by kernel_rfl) (by kernel_rfl) ?_
                refine Wk.rPure 1 (some 55) (.bool true) rfl rfl (by kernel_rfl) (Wk.boolT (b := ((3 : Int) == (3 : Int))) (beq_iff_eq.2 (by decide)) (by kernel_rfl)) ?_
                refine Wk.rPure 2 (some 56) (.bool true) rfl rfl (by kernel_rfl) (by kernel_rfl) ?_
                refine Wk.rPass 3 (some 57) rfl rfl (by kernel_rfl) ?_
                refine Wk.rPass 4 (some 58) rfl rfl (by kernel_rfl) ?_
                refine Wk.rPure 5 (some 59) (.bool true) rfl rfl (by kernel_rfl) (by kernel_rfl) ?_
                refine Wk.rPure 6 (some 60) (.bool true) rfl rfl (by kernel_rfl) (by kernel_rfl) ?_
                refine Wk.rPass 7 (some 61) rfl rfl (by kernel_rfl) ?_
                refine Wk.rPass 8 (some 62) rfl rfl (by kernel_rfl) ?_
                refine Wk.rPure 9 (some 63) (.bool true) rfl rfl (by kernel_rfl) (by kernel_rfl) ?_
                refine Wk.rPure 10 (some 12) (.bool true) rfl rfl (by kernel_rfl) (by kernel_rfl) ?_
                refine Wk.rEnd 11 rfl ?_
                refine Wk.nxt ?_
                refine wp_seq ?_
                refine Wk.cut (fun a wj => a = EndsYes_J13_8 a.tmps (.int .i64 most) (.int .i64 budget) (.slice A n c) (.pointer (some ⟨w.heap.size, 0, none⟩)) (.int .i64 ran) (.int .i64 ((k : Nat) : Int)) (.pointer (some ⟨W5.heap.size, 0, none⟩)) (.int .u8 3) ∧ W9 = wj) ?_ ?_
                · refine wp_seq ?_
                  refine Wk.reg ?_
                  refine Wk.rPure 0 (some 64) (.int .i64 ((k : Nat) : Int)) rfl rfl (by kernel_rfl) (by kernel_rfl) ?_
                  refine Wk.rPure 1 (some 65) (.int .i64 most) rfl rfl (by kernel_rfl) (by kernel_rfl) ?_
                  refine Wk.rPure 2 (some 66) (.int .i64 budget) rfl rfl (by kernel_rfl) (by kernel_rfl) ?_
                  refine Wk.rPure 3 (some 67) (.int .i64 (most + budget)) rfl rfl (by kernel_rfl) (Wk.int64 (n := most + budget) (z := most + budget) (by omega) (by omega) (by omega) (by kernel_rfl)) ?_
                  refine Wk.rPure 4 (some 68) (.int .i64 ((most + budget) + 2)) rfl rfl (by kernel_rfl) (Wk.int64 (n := (most + budget) + 2) (z := (most + budget) + 2) (by omega) (by omega) (by omega) (by kernel_rfl)) ?_
                  by_cases hx15 : ((k : Nat) : Int) ≥ ((most + budget) + 2)
                  · refine Wk.rPure 5 (some 69) (.bool true) rfl rfl (by kernel_rfl) (Wk.boolT (b := decide (((k : Nat) : Int) ≥ ((most + budget) + 2))) (decide_eq_true (by first | exact hx15 | omega)) (by kernel_rfl)) ?_
                    refine Wk.rPure 6 (some 70) (.bool true) rfl rfl (by kernel_rfl) (by kernel_rfl) ?_
                    refine Wk.rPure 7 (some 71) (.bool true) rfl rfl (by kernel_rfl) (by kernel_rfl) ?_
                    refine Wk.rPure 8 (some 72) (.bool false) rfl rfl (by kernel_rfl) (by kernel_rfl) ?_
                    refine Wk.rPure 9 (some 73) (.bool false) rfl rfl (by kernel_rfl) (by kernel_rfl) ?_
                    refine Wk.rPure 10 (some 74) (.bool false) rfl rfl (by kernel_rfl) (by kernel_rfl) ?_
                    refine Wk.rPure 11 (some 75) (.int .i64 ran) rfl rfl (by kernel_rfl) (by kernel_rfl) ?_
                    by_cases hx16 : ran ≥ (0 : Int)
                    · refine Wk.rPure 12 (some 76) (.bool true) rfl rfl (by kernel_rfl) (Wk.boolT (b := decide (ran ≥ (0 : Int))) (decide_eq_true (by first | exact hx16 | omega)) (by kernel_rfl)) ?_
                      refine Wk.rPure 13 (some 77) (.bool true) rfl rfl (by kernel_rfl) (by kernel_rfl) ?_
                      refine Wk.rPure 14 (some 78) (.bool true) rfl rfl (by kernel_rfl) (by kernel_rfl) ?_
                      refine Wk.rPure 15 (some 79) (.bool false) rfl rfl (by kernel_rfl) (by kernel_rfl) ?_
                      refine Wk.rPure 16 (some 80) (.bool false) rfl rfl (by kernel_rfl) (by kernel_rfl) ?_
                      refine Wk.rPure 17 (some 81) (.bool false) rfl rfl (by kernel_rfl) (by kernel_rfl) ?_
                      refine Wk.rPure 18 (some 82) (.bool false) rfl rfl (by kernel_rfl) (by kernel_rfl) ?_
                      refine Wk.rPure 19 (some 83) (.pointer (some ⟨w.heap.size, 0, none⟩)) rfl rfl (by kernel_rfl) (by kernel_rfl) ?_
                      refine Wk.rCall 20 (some 84) 11 [.tmp 83] #[23] [.pointer (some ⟨w.heap.size, 0, none⟩)] rfl rfl (by kernel_rfl) rfl (by kernel_rfl) (by kernel_rfl) ?_
                      refine (Over_any t1 w.heap.size _ hu1).mono ?_
                      rintro _ _ ⟨rfl, rfl⟩
                      rw [hover]
                      rw [show (decide (4 ≤ (3 : Int))) = false from rfl]
                      refine ⟨_, rfl, ?_⟩
                      refine Wk.rPure 21 (some 85) (.int .u8 3) rfl rfl (by kernel_rfl) (by kernel_rfl) ?_
                      refine Wk.rPure 22 (some 86) (.bool false) rfl rfl (by kernel_rfl) (Wk.boolF (b := ((3 : Int) == (4 : Int))) (beq_eq_false_iff_ne.2 (by decide)) (by kernel_rfl)) ?_
                      refine Wk.rPure 23 (some 87) (.bool false) rfl rfl (by kernel_rfl) (by kernel_rfl) ?_
                      refine Wk.rPure 24 (some 88) (.int .u8 3) rfl rfl (by kernel_rfl) (by kernel_rfl) ?_
                      refine Wk.rPure 25 (some 89) (.bool false) rfl rfl (by kernel_rfl) (Wk.boolF (b := ((3 : Int) == (5 : Int))) (beq_eq_false_iff_ne.2 (by decide)) (by kernel_rfl)) ?_
                      refine Wk.rPure 26 (some 90) (.bool false) rfl rfl (by kernel_rfl) (by kernel_rfl) ?_
                      refine Wk.rPure 27 (some 91) (.bool false) rfl rfl (by kernel_rfl) (by kernel_rfl) ?_
                      refine Wk.rPure 28 (some 92) (.bool false) rfl rfl (by kernel_rfl) (by kernel_rfl) ?_
                      refine Wk.rEnd 29 rfl ?_
                      refine Wk.nxt ?_
                      refine wp_cond_false (by kernel_rfl) ?_
                      refine wp_skip ?_
                      refine Wk.nxt ?_
                      exact ⟨by kernel_rfl, rfl⟩
                    · refine Wk.rPure 12 (some 76) (.bool false) rfl rfl (by kernel_rfl) (Wk.boolF (b := decide (ran ≥ (0 : Int))) (decide_eq_false (by first | exact hx16 | omega)) (by kernel_rfl)) ?_
                      refine Wk.rPure 13 (some 77) (.bool false) rfl rfl (by kernel_rfl) (by kernel_rfl) ?_
                      refine Wk.rPass 14 (some 78) rfl rfl (by kernel_rfl) ?_
                      refine Wk.rPass 15 (some 79) rfl rfl (by kernel_rfl) ?_
                      refine Wk.rPure 16 (some 80) (.bool false) rfl rfl (by kernel_rfl) (by kernel_rfl) ?_
                      refine Wk.rPure 17 (some 81) (.bool false) rfl rfl (by kernel_rfl) (by kernel_rfl) ?_
                      refine Wk.rPure 18 (some 82) (.bool false) rfl rfl (by kernel_rfl) (by kernel_rfl) ?_
                      refine Wk.rPure 19 (some 83) (.pointer (some ⟨w.heap.size, 0, none⟩)) rfl rfl (by kernel_rfl) (by kernel_rfl) ?_
                      refine Wk.rCall 20 (some 84) 11 [.tmp 83] #[23] [.pointer (some ⟨w.heap.size, 0, none⟩)] rfl rfl (by kernel_rfl) rfl (by kernel_rfl) (by kernel_rfl) ?_
                      refine (Over_any t1 w.heap.size _ hu1).mono ?_
                      rintro _ _ ⟨rfl, rfl⟩
                      rw [hover]
                      rw [show (decide (4 ≤ (3 : Int))) = false from rfl]
                      refine ⟨_, rfl, ?_⟩
                      refine Wk.rPure 21 (some 85) (.int .u8 3) rfl rfl (by kernel_rfl) (by kernel_rfl) ?_
                      refine Wk.rPure 22 (some 86) (.bool false) rfl rfl (by kernel_rfl) (Wk.boolF (b := ((3 : Int) == (4 : Int))) (beq_eq_false_iff_ne.2 (by decide)) (by kernel_rfl)) ?_
                      refine Wk.rPure 23 (some 87) (.bool false) rfl rfl (by kernel_rfl) (by kernel_rfl) ?_
                      refine Wk.rPure 24 (some 88) (.int .u8 3) rfl rfl (by kernel_rfl) (by kernel_rfl) ?_
                      refine Wk.rPure 25 (some 89) (.bool false) rfl rfl (by kernel_rfl) (Wk.boolF (b := ((3 : Int) == (5 : Int))) (beq_eq_false_iff_ne.2 (by decide)) (by kernel_rfl)) ?_
                      refine Wk.rPure 26 (some 90) (.bool false) rfl rfl (by kernel_rfl) (by kernel_rfl) ?_
                      refine Wk.rPure 27 (some 91) (.bool false) rfl rfl (by kernel_rfl) (by kernel_rfl) ?_
                      refine Wk.rPure 28 (some 92) (.bool false) rfl rfl (by kernel_rfl) (by kernel_rfl) ?_
                      refine Wk.rEnd 29 rfl ?_
                      refine Wk.nxt ?_
                      refine wp_cond_false (by kernel_rfl) ?_
                      refine wp_skip ?_
                      refine Wk.nxt ?_
                      exact ⟨by kernel_rfl, rfl⟩
                  · refine Wk.rPure 5 (some 69) (.bool false) rfl rfl (by kernel_rfl) (Wk.boolF (b := decide (((k : Nat) : Int) ≥ ((most + budget) + 2))) (decide_eq_false (by first | exact hx15 | omega)) (by kernel_rfl)) ?_
                    refine Wk.rPure 6 (some 70) (.bool false) rfl rfl (by kernel_rfl) (by kernel_rfl) ?_
                    refine Wk.rPass 7 (some 71) rfl rfl (by kernel_rfl) ?_
                    refine Wk.rPass 8 (some 72) rfl rfl (by kernel_rfl) ?_
                    refine Wk.rPure 9 (some 73) (.bool false) rfl rfl (by kernel_rfl) (by kernel_rfl) ?_
                    refine Wk.rPure 10 (some 74) (.bool false) rfl rfl (by kernel_rfl) (by kernel_rfl) ?_
                    refine Wk.rPure 11 (some 75) (.int .i64 ran) rfl rfl (by kernel_rfl) (by kernel_rfl) ?_
                    by_cases hx17 : ran ≥ (0 : Int)
                    · refine Wk.rPure 12 (some 76) (.bool true) rfl rfl (by kernel_rfl) (Wk.boolT (b := decide (ran ≥ (0 : Int))) (decide_eq_true (by first | exact hx17 | omega)) (by kernel_rfl)) ?_
                      refine Wk.rPure 13 (some 77) (.bool true) rfl rfl (by kernel_rfl) (by kernel_rfl) ?_
                      refine Wk.rPure 14 (some 78) (.bool true) rfl rfl (by kernel_rfl) (by kernel_rfl) ?_
                      refine Wk.rPure 15 (some 79) (.bool false) rfl rfl (by kernel_rfl) (by kernel_rfl) ?_
                      refine Wk.rPure 16 (some 80) (.bool false) rfl rfl (by kernel_rfl) (by kernel_rfl) ?_
                      refine Wk.rPure 17 (some 81) (.bool false) rfl rfl (by kernel_rfl) (by kernel_rfl) ?_
                      refine Wk.rPure 18 (some 82) (.bool false) rfl rfl (by kernel_rfl) (by kernel_rfl) ?_
                      refine Wk.rPure 19 (some 83) (.pointer (some ⟨w.heap.size, 0, none⟩)) rfl rfl (by kernel_rfl) (by kernel_rfl) ?_
                      refine Wk.rCall 20 (some 84) 11 [.tmp 83] #[23] [.pointer (some ⟨w.heap.size, 0, none⟩)] rfl rfl (by kernel_rfl) rfl (by kernel_rfl) (by kernel_rfl) ?_
                      refine (Over_any t1 w.heap.size _ hu1).mono ?_
                      rintro _ _ ⟨rfl, rfl⟩
                      rw [hover]
                      rw [show (decide (4 ≤ (3 : Int))) = false from rfl]
                      refine ⟨_, rfl, ?_⟩
                      refine Wk.rPure 21 (some 85) (.int .u8 3) rfl rfl (by kernel_rfl) (by kernel_rfl) ?_
                      refine Wk.rPure 22 (some 86) (.bool false) rfl rfl (by kernel_rfl) (Wk.boolF (b := ((3 : Int) == (4 : Int))) (beq_eq_false_iff_ne.2 (by decide)) (by kernel_rfl)) ?_
                      refine Wk.rPure 23 (some 87) (.bool false) rfl rfl (by kernel_rfl) (by kernel_rfl) ?_
                      refine Wk.rPure 24 (some 88) (.int .u8 3) rfl rfl (by kernel_rfl) (by kernel_rfl) ?_
                      refine Wk.rPure 25 (some 89) (.bool false) rfl rfl (by kernel_rfl) (Wk.boolF (b := ((3 : Int) == (5 : Int))) (beq_eq_false_iff_ne.2 (by decide)) (by kernel_rfl)) ?_
                      refine Wk.rPure 26 (some 90) (.bool false) rfl rfl (by kernel_rfl) (by kernel_rfl) ?_
                      refine Wk.rPure 27 (some 91) (.bool false) rfl rfl (by kernel_rfl) (by kernel_rfl) ?_
                      refine Wk.rPure 28 (some 92) (.bool false) rfl rfl (by kernel_rfl) (by kernel_rfl) ?_
                      refine Wk.rEnd 29 rfl ?_
                      refine Wk.nxt ?_
                      refine wp_cond_false (by kernel_rfl) ?_
                      refine wp_skip ?_
                      refine Wk.nxt ?_
                      exact ⟨by kernel_rfl, rfl⟩
                    · refine Wk.rPure 12 (some 76) (.bool false) rfl rfl (by kernel_rfl) (Wk.boolF (b := decide (ran ≥ (0 : Int))) (decide_eq_false (by first | exact hx17 | omega)) (by kernel_rfl)) ?_
                      refine Wk.rPure 13 (some 77) (.bool false) rfl rfl (by kernel_rfl) (by kernel_rfl) ?_
                      refine Wk.rPass 14 (some 78) rfl rfl (by kernel_rfl) ?_
                      refine Wk.rPass 15 (some 79) rfl rfl (by kernel_rfl) ?_
                      refine Wk.rPure 16 (some 80) (.bool false) rfl rfl (by kernel_rfl) (by kernel_rfl) ?_
                      refine Wk.rPure 17 (some 81) (.bool false) rfl rfl (by kernel_rfl) (by kernel_rfl) ?_
                      refine Wk.rPure 18 (some 82) (.bool false) rfl rfl (by kernel_rfl) (by kernel_rfl) ?_
                      refine Wk.rPure 19 (some 83) (.pointer (some ⟨w.heap.size, 0, none⟩)) rfl rfl (by kernel_rfl) (by kernel_rfl) ?_
                      refine Wk.rCall 20 (some 84) 11 [.tmp 83] #[23] [.pointer (some ⟨w.heap.size, 0, none⟩)] rfl rfl (by kernel_rfl) rfl (by kernel_rfl) (by kernel_rfl) ?_
                      refine (Over_any t1 w.heap.size _ hu1).mono ?_
                      rintro _ _ ⟨rfl, rfl⟩
                      rw [hover]
                      rw [show (decide (4 ≤ (3 : Int))) = false from rfl]
                      refine ⟨_, rfl, ?_⟩
                      refine Wk.rPure 21 (some 85) (.int .u8 3) rfl rfl (by kernel_rfl) (by kernel_rfl) ?_
                      refine Wk.rPure 22 (some 86) (.bool false) rfl rfl (by kernel_rfl) (Wk.boolF (b := ((3 : Int) == (4 : Int))) (beq_eq_false_iff_ne.2 (by decide)) (by kernel_rfl)) ?_
                      refine Wk.rPure 23 (some 87) (.bool false) rfl rfl (by kernel_rfl) (by kernel_rfl) ?_
                      refine Wk.rPure 24 (some 88) (.int .u8 3) rfl rfl (by kernel_rfl) (by kernel_rfl) ?_
                      refine Wk.rPure 25 (some 89) (.bool false) rfl rfl (by kernel_rfl) (Wk.boolF (b := ((3 : Int) == (5 : Int))) (beq_eq_false_iff_ne.2 (by decide)) (by kernel_rfl)) ?_
                      refine Wk.rPure 26 (some 90) (.bool false) rfl rfl (by kernel_rfl) (by kernel_rfl) ?_
                      refine Wk.rPure 27 (some 91) (.bool false) rfl rfl (by kernel_rfl) (by kernel_rfl) ?_
                      refine Wk.rPure 28 (some 92) (.bool false) rfl rfl (by kernel_rfl) (by kernel_rfl) ?_
                      refine Wk.rEnd 29 rfl ?_
                      refine Wk.nxt ?_
                      refine wp_cond_false (by kernel_rfl) ?_
                      refine wp_skip ?_
                      refine Wk.nxt ?_
                      exact ⟨by kernel_rfl, rfl⟩
                · rintro aa9 _ ⟨hF9, rfl⟩
                  generalize aa9.tmps = bb9 at hF9
                  subst hF9
                  refine Wk.nxt ?_
                  refine wp_seq ?_
                  refine Wk.cut (fun a wj => a = EndsYes_J15_9 a.tmps (.int .i64 most) (.int .i64 budget) (.slice A n c) (.pointer (some ⟨w.heap.size, 0, none⟩)) (.int .i64 ran) (.int .i64 ((k : Nat) : Int)) (.int .u8 3) ∧ W9 = wj) ?_ ?_
                  · refine wp_seq ?_
                    refine Wk.reg ?_
                    refine Wk.rPure 0 (some 93) (.int .i64 ran) rfl rfl (by kernel_rfl) (by kernel_rfl) ?_
                    by_cases hx18 : ran ≥ (0 : Int)
                    · refine Wk.rPure 1 (some 94) (.bool true) rfl rfl (by kernel_rfl) (Wk.boolT (b := decide (ran ≥ (0 : Int))) (decide_eq_true (by first | exact hx18 | omega)) (by kernel_rfl)) ?_
                      refine Wk.rPure 2 (some 95) (.bool true) rfl rfl (by kernel_rfl) (by kernel_rfl) ?_
                      refine Wk.rPure 3 (some 96) (.pointer (some ⟨w.heap.size, 0, none⟩)) rfl rfl (by kernel_rfl) (by kernel_rfl) ?_
                      refine Wk.rCall 4 (some 97) 11 [.tmp 96] #[23] [.pointer (some ⟨w.heap.size, 0, none⟩)] rfl rfl (by kernel_rfl) rfl (by kernel_rfl) (by kernel_rfl) ?_
                      refine (Over_any t1 w.heap.size _ hu1).mono ?_
                      rintro _ _ ⟨rfl, rfl⟩
                      rw [hover]
                      rw [show (decide (4 ≤ (3 : Int))) = false from rfl]
                      refine ⟨_, rfl, ?_⟩
                      refine Wk.rPure 5 (some 98) (.bool true) rfl rfl (by kernel_rfl) (by kernel_rfl) ?_
                      refine Wk.rPure 6 (some 99) (.bool true) rfl rfl (by kernel_rfl) (by kernel_rfl) ?_
                      refine Wk.rPure 7 (some 100) (.bool true) rfl rfl (by kernel_rfl) (by kernel_rfl) ?_
                      refine Wk.rPure 8 (some 101) (.pointer (some ⟨W5.heap.size, 6, none⟩)) rfl rfl (by kernel_rfl) (by kernel_rfl) ?_
                      refine Wk.rPure 9 (some 102) (.bool c6) rfl rfl (by kernel_rfl) (Wk.load1 4 (.tmp 101) rfl (by kernel_rfl) ⟨W5.heap.size, 6, none⟩ (by kernel_rfl) (.bool c6) ((cell_of_row _ _ 6 _ _ _ (Wk.Chg.hp ch8 hfb ⟨by omega, trivial⟩)).trans rfl)) ?_
                      refine Wk.rPure 10 (some 103) (.bool c6) rfl rfl (by kernel_rfl) (by kernel_rfl) ?_
                      cases c6
                      · refine Wk.rPure 11 (some 104) (.pointer (some ⟨W5.heap.size, 7, none⟩)) rfl rfl (by kernel_rfl) (by kernel_rfl) ?_
                        refine Wk.rPure 12 (some 105) (.bool c7) rfl rfl (by kernel_rfl) (Wk.load1 4 (.tmp 104) rfl (by kernel_rfl) ⟨W5.heap.size, 7, none⟩ (by kernel_rfl) (.bool c7) ((cell_of_row _ _ 7 _ _ _ (Wk.Chg.hp ch8 hfb ⟨by omega, trivial⟩)).trans rfl)) ?_
                        refine Wk.rPure 13 (some 106) (.bool c7) rfl rfl (by kernel_rfl) (by kernel_rfl) ?_
                        refine Wk.rPure 14 (some 107) (.bool c7) rfl rfl (by kernel_rfl) (by kernel_rfl) ?_
                        cases c7
                        · refine Wk.rPure 15 (some 108) (.pointer (some ⟨W5.heap.size, 0, none⟩)) rfl rfl (by kernel_rfl) (by kernel_rfl) ?_
                          refine Wk.rPure 16 (some 109) (.bool c0) rfl rfl (by kernel_rfl) (Wk.load1 4 (.tmp 108) rfl (by kernel_rfl) ⟨W5.heap.size, 0, none⟩ (by kernel_rfl) (.bool c0) ((cell_of_row _ _ 0 _ _ _ (Wk.Chg.hp ch8 hfb ⟨by omega, trivial⟩)).trans rfl)) ?_
                          refine Wk.rPure 17 (some 110) (.bool c0) rfl rfl (by kernel_rfl) (by kernel_rfl) ?_
                          refine Wk.rPure 18 (some 111) (.bool c0) rfl rfl (by kernel_rfl) (by kernel_rfl) ?_
                          refine Wk.rEnd 19 rfl ?_
                          refine Wk.nxt ?_
                          cases c0
                          · refine wp_cond_false (by kernel_rfl) ?_
                            refine wp_skip ?_
                            refine Wk.nxt ?_
                            exact ⟨by kernel_rfl, rfl⟩
                          · refine wp_cond_true (by kernel_rfl) ?_
                            refine wp_seq ?_
                            refine Wk.reg ?_
                            refine Wk.rPure 0 (some 6) (.bool false) rfl rfl (by kernel_rfl) (by kernel_rfl) ?_
                            refine Wk.rEnd 1 rfl ?_
                            refine Wk.nxt ?_
                            refine wp_ret ?_
                            refine Wk.thR ?_
                            refine Wk.thR ?_
                            refine Wk.inR ?_
                            refine Wk.thR ?_
                            refine Wk.thR ?_
                            refine Wk.inR ?_
                            refine Wk.thR ?_
                            exfalso; first | omega | (have hq := htold rfl (by omega); simp at hq)
                        · refine Wk.rPass 15 (some 108) rfl rfl (by kernel_rfl) ?_
                          refine Wk.rPass 16 (some 109) rfl rfl (by kernel_rfl) ?_
                          refine Wk.rPure 17 (some 110) (.bool true) rfl rfl (by kernel_rfl) (by kernel_rfl) ?_
                          refine Wk.rPure 18 (some 111) (.bool true) rfl rfl (by kernel_rfl) (by kernel_rfl) ?_
                          refine Wk.rEnd 19 rfl ?_
                          refine Wk.nxt ?_
                          refine wp_cond_true (by kernel_rfl) ?_
                          refine wp_seq ?_
                          refine Wk.reg ?_
                          refine Wk.rPure 0 (some 6) (.bool false) rfl rfl (by kernel_rfl) (by kernel_rfl) ?_
                          refine Wk.rEnd 1 rfl ?_
                          refine Wk.nxt ?_
                          refine wp_ret ?_
                          refine Wk.thR ?_
                          refine Wk.thR ?_
                          refine Wk.inR ?_
                          refine Wk.thR ?_
                          refine Wk.thR ?_
                          refine Wk.inR ?_
                          refine Wk.thR ?_
                          exfalso; first | omega | (have hq := htold rfl (by omega); simp at hq)
                      · refine Wk.rPass 11 (some 104) rfl rfl (by kernel_rfl) ?_
                        refine Wk.rPass 12 (some 105) rfl rfl (by kernel_rfl) ?_
                        refine Wk.rPure 13 (some 106) (.bool true) rfl rfl (by kernel_rfl) (by kernel_rfl) ?_
                        refine Wk.rPure 14 (some 107) (.bool true) rfl rfl (by kernel_rfl) (by kernel_rfl) ?_
                        refine Wk.rPass 15 (some 108) rfl rfl (by kernel_rfl) ?_
                        refine Wk.rPass 16 (some 109) rfl rfl (by kernel_rfl) ?_
                        refine Wk.rPure 17 (some 110) (.bool true) rfl rfl (by kernel_rfl) (by kernel_rfl) ?_
                        refine Wk.rPure 18 (some 111) (.bool true) rfl rfl (by kernel_rfl) (by kernel_rfl) ?_
                        refine Wk.rEnd 19 rfl ?_
                        refine Wk.nxt ?_
                        refine wp_cond_true (by kernel_rfl) ?_
                        refine wp_seq ?_
                        refine Wk.reg ?_
                        refine Wk.rPure 0 (some 6) (.bool false) rfl rfl (by kernel_rfl) (by kernel_rfl) ?_
                        refine Wk.rEnd 1 rfl ?_
                        refine Wk.nxt ?_
                        refine wp_ret ?_
                        refine Wk.thR ?_
                        refine Wk.thR ?_
                        refine Wk.inR ?_
                        refine Wk.thR ?_
                        refine Wk.thR ?_
                        refine Wk.inR ?_
                        refine Wk.thR ?_
                        exfalso; first | omega | (have hq := htold rfl (by omega); simp at hq)
                    · refine Wk.rPure 1 (some 94) (.bool false) rfl rfl (by kernel_rfl) (Wk.boolF (b := decide (ran ≥ (0 : Int))) (decide_eq_false (by first | exact hx18 | omega)) (by kernel_rfl)) ?_
                      refine Wk.rPure 2 (some 95) (.bool false) rfl rfl (by kernel_rfl) (by kernel_rfl) ?_
                      refine Wk.rPass 3 (some 96) rfl rfl (by kernel_rfl) ?_
                      refine Wk.rPass 4 (some 97) rfl rfl (by kernel_rfl) ?_
                      refine Wk.rPass 5 (some 98) rfl rfl (by kernel_rfl) ?_
                      refine Wk.rPure 6 (some 99) (.bool false) rfl rfl (by kernel_rfl) (by kernel_rfl) ?_
                      refine Wk.rPure 7 (some 100) (.bool false) rfl rfl (by kernel_rfl) (by kernel_rfl) ?_
                      refine Wk.rPass 8 (some 101) rfl rfl (by kernel_rfl) ?_
                      refine Wk.rPass 9 (some 102) rfl rfl (by kernel_rfl) ?_
                      refine Wk.rPass 10 (some 103) rfl rfl (by kernel_rfl) ?_
                      refine Wk.rPass 11 (some 104) rfl rfl (by kernel_rfl) ?_
                      refine Wk.rPass 12 (some 105) rfl rfl (by kernel_rfl) ?_
                      refine Wk.rPass 13 (some 106) rfl rfl (by kernel_rfl) ?_
                      refine Wk.rPass 14 (some 107) rfl rfl (by kernel_rfl) ?_
                      refine Wk.rPass 15 (some 108) rfl rfl (by kernel_rfl) ?_
                      refine Wk.rPass 16 (some 109) rfl rfl (by kernel_rfl) ?_
                      refine Wk.rPass 17 (some 110) rfl rfl (by kernel_rfl) ?_
                      refine Wk.rPure 18 (some 111) (.bool false) rfl rfl (by kernel_rfl) (by kernel_rfl) ?_
                      refine Wk.rEnd 19 rfl ?_
                      refine Wk.nxt ?_
                      refine wp_cond_false (by kernel_rfl) ?_
                      refine wp_skip ?_
                      refine Wk.nxt ?_
                      exact ⟨by kernel_rfl, rfl⟩
                  · rintro aa10 _ ⟨hF10, rfl⟩
                    generalize aa10.tmps = bb10 at hF10
                    subst hF10
                    refine Wk.nxt ?_
                    refine wp_seq ?_
                    refine Wk.reg ?_
                    refine Wk.rPure 0 (some 112) (.int .u8 3) rfl rfl (by kernel_rfl) (by kernel_rfl) ?_
                    refine Wk.rPure 1 (some 113) (.bool true) rfl rfl (by kernel_rfl) (Wk.boolT (b := ((3 : Int) == (3 : Int))) (beq_iff_eq.2 (by decide)) (by kernel_rfl)) ?_
                    refine Wk.rPure 2 (some 114) (.bool true) rfl rfl (by kernel_rfl) (by kernel_rfl) ?_
                    refine Wk.rPure 3 (some 115) (.int .i64 ran) rfl rfl (by kernel_rfl) (by kernel_rfl) ?_
                    by_cases hx19 : ran < (0 : Int)
                    · refine Wk.rPure 4 (some 116) (.bool true) rfl rfl (by kernel_rfl) (Wk.boolT (b := decide (ran < (0 : Int))) (decide_eq_true (by first | exact hx19 | omega)) (by kernel_rfl)) ?_
                      refine Wk.rPure 5 (some 117) (.bool true) rfl rfl (by kernel_rfl) (by kernel_rfl) ?_
                      refine Wk.rEnd 6 rfl ?_
                      refine Wk.nxt ?_
                      refine wp_cond_true (by kernel_rfl) ?_
                      refine Wk.reg ?_
                      refine Wk.rPure 0 (some 118) (.int .i64 ((k : Nat) : Int)) rfl rfl (by kernel_rfl) (by kernel_rfl) ?_
                      refine Wk.rPure 1 (some 8) (.int .i64 ((k : Nat) : Int)) rfl rfl (by kernel_rfl) (by kernel_rfl) ?_
                      refine Wk.rEnd 2 rfl ?_
                      refine Wk.inN ?_
                      refine Wk.nxt ?_
                      refine Wk.reg ?_
                      refine Wk.rPure 0 (some 38) (.int .i64 ((k : Nat) : Int)) rfl rfl (by kernel_rfl) (by kernel_rfl) ?_
                      refine Wk.rPure 1 (some 39) (.int .i64 ((k + 1 : Nat) : Int)) rfl rfl (by kernel_rfl) (Wk.int64 (n := ((k : Nat) : Int) + 1) (z := ((k + 1 : Nat) : Int)) (by omega) (by omega) (by omega) (by kernel_rfl)) ?_
                      refine Wk.rPure 2 (some 9) (.int .i64 ((k + 1 : Nat) : Int)) rfl rfl (by kernel_rfl) (by kernel_rfl) ?_
                      refine Wk.rEnd 3 rfl ?_
                      refine Wk.nxt ?_
                      have kk18 := Wk.Chg.step HB ch5 trivial
                      have kk19 := Wk.Chg.step kk18 ch7 ⟨.inr (by omega), trivial⟩
                      have kk20 := Wk.Chg.step kk19 ch8 ⟨.inr (by omega), trivial⟩
                      refine ⟨_, ?_, k + 1, t1, ((k : Nat) : Int), rfl, by kernel_rfl, (by omega), hu1, (by first | exact hinv | (rw [if_pos ⟨rfl, by omega⟩] at hinv; exact hinv) | (rw [if_neg (by omega)] at hinv; exact hinv)), kk20⟩
                      · omega
                    · refine Wk.rPure 4 (some 116) (.bool false) rfl rfl (by kernel_rfl) (Wk.boolF (b := decide (ran < (0 : Int))) (decide_eq_false (by first | exact hx19 | omega)) (by kernel_rfl)) ?_
                      refine Wk.rPure 5 (some 117) (.bool false) rfl rfl (by kernel_rfl) (by kernel_rfl) ?_
                      refine Wk.rEnd 6 rfl ?_
                      refine Wk.nxt ?_
                      refine wp_cond_false (by kernel_rfl) ?_
                      refine wp_skip ?_
                      refine Wk.inN ?_
                      refine Wk.nxt ?_
                      refine Wk.reg ?_
                      refine Wk.rPure 0 (some 38) (.int .i64 ((k : Nat) : Int)) rfl rfl (by kernel_rfl) (by kernel_rfl) ?_
                      refine Wk.rPure 1 (some 39) (.int .i64 ((k + 1 : Nat) : Int)) rfl rfl (by kernel_rfl) (Wk.int64 (n := ((k : Nat) : Int) + 1) (z := ((k + 1 : Nat) : Int)) (by omega) (by omega) (by omega) (by kernel_rfl)) ?_
                      refine Wk.rPure 2 (some 9) (.int .i64 ((k + 1 : Nat) : Int)) rfl rfl (by kernel_rfl) (by kernel_rfl) ?_
                      refine Wk.rEnd 3 rfl ?_
                      refine Wk.nxt ?_
                      have kk21 := Wk.Chg.step HB ch5 trivial
                      have kk22 := Wk.Chg.step kk21 ch7 ⟨.inr (by omega), trivial⟩
                      have kk23 := Wk.Chg.step kk22 ch8 ⟨.inr (by omega), trivial⟩
                      refine ⟨_, ?_, k + 1, t1, ran, rfl, by kernel_rfl, (by omega), hu1, (by first | exact hinv | (rw [if_pos ⟨rfl, by omega⟩] at hinv; exact hinv) | (rw [if_neg (by omega)] at hinv; exact hinv)), kk23⟩
                      · omega
              · refine ⟨_, rfl, ?_⟩
                refine Wk.rPure 4 (some 11) (.int .u8 4) rfl rfl (by kernel_rfl) (by kernel_rfl) ?_
                refine Wk.rEnd 5 rfl ?_
                refine Wk.nxt ?_
                refine wp_seq ?_
                refine Wk.reg ?_
                refine Wk.rPure 0 (some 54) (.int .u8 4) rfl rfl (by kernel_rfl) (by kernel_rfl) ?_
                refine Wk.rPure 1 (some 55) (.bool false) rfl rfl (by kernel_rfl) (Wk.boolF (b := ((4 : Int) == (3 : Int))) (beq_eq_false_iff_ne.2 (by decide)) (by kernel_rfl)) ?_
                refine Wk.rPure 2 (some 56) (.bool false) rfl rfl (by kernel_rfl) (by kernel_rfl) ?_
                refine Wk.rPure 3 (some 57) (.int .u8 4) rfl rfl (by kernel_rfl) (by kernel_rfl) ?_
                refine Wk.rPure 4 (some 58) (.bool true) rfl rfl (by kernel_rfl) (Wk.boolT (b := ((4 : Int) == (4 : Int))) (beq_iff_eq.2 (by decide)) (by kernel_rfl)) ?_
                refine Wk.rPure 5 (some 59) (.bool true) rfl rfl (by kernel_rfl) (by kernel_rfl) ?_
                refine Wk.rPure 6 (some 60) (.bool true) rfl rfl (by kernel_rfl) (by kernel_rfl) ?_
                refine Wk.rPass 7 (some 61) rfl rfl (by kernel_rfl) ?_
                refine Wk.rPass 8 (some 62) rfl rfl (by kernel_rfl) ?_
                refine Wk.rPure 9 (some 63) (.bool true) rfl rfl (by kernel_rfl) (by kernel_rfl) ?_
                refine Wk.rPure 10 (some 12) (.bool true) rfl rfl (by kernel_rfl) (by kernel_rfl) ?_
                refine Wk.rEnd 11 rfl ?_
                refine Wk.nxt ?_
                refine wp_seq ?_
                refine Wk.cut (fun a wj => a = EndsYes_J13_10 a.tmps (.int .i64 most) (.int .i64 budget) (.slice A n c) (.pointer (some ⟨w.heap.size, 0, none⟩)) (.int .i64 ran) (.int .i64 ((k : Nat) : Int)) (.pointer (some ⟨W5.heap.size, 0, none⟩)) (.int .u8 4) ∧ W9 = wj) ?_ ?_
                · refine wp_seq ?_
                  refine Wk.reg ?_
                  refine Wk.rPure 0 (some 64) (.int .i64 ((k : Nat) : Int)) rfl rfl (by kernel_rfl) (by kernel_rfl) ?_
                  refine Wk.rPure 1 (some 65) (.int .i64 most) rfl rfl (by kernel_rfl) (by kernel_rfl) ?_
                  refine Wk.rPure 2 (some 66) (.int .i64 budget) rfl rfl (by kernel_rfl) (by kernel_rfl) ?_
                  refine Wk.rPure 3 (some 67) (.int .i64 (most + budget)) rfl rfl (by kernel_rfl) (Wk.int64 (n := most + budget) (z := most + budget) (by omega) (by omega) (by omega) (by kernel_rfl)) ?_
                  refine Wk.rPure 4 (some 68) (.int .i64 ((most + budget) + 2)) rfl rfl (by kernel_rfl) (Wk.int64 (n := (most + budget) + 2) (z := (most + budget) + 2) (by omega) (by omega) (by omega) (by kernel_rfl)) ?_
                  by_cases hx20 : ((k : Nat) : Int) ≥ ((most + budget) + 2)
                  · refine Wk.rPure 5 (some 69) (.bool true) rfl rfl (by kernel_rfl) (Wk.boolT (b := decide (((k : Nat) : Int) ≥ ((most + budget) + 2))) (decide_eq_true (by first | exact hx20 | omega)) (by kernel_rfl)) ?_
                    refine Wk.rPure 6 (some 70) (.bool true) rfl rfl (by kernel_rfl) (by kernel_rfl) ?_
                    refine Wk.rPure 7 (some 71) (.bool true) rfl rfl (by kernel_rfl) (by kernel_rfl) ?_
                    refine Wk.rPure 8 (some 72) (.bool false) rfl rfl (by kernel_rfl) (by kernel_rfl) ?_
                    refine Wk.rPure 9 (some 73) (.bool false) rfl rfl (by kernel_rfl) (by kernel_rfl) ?_
                    refine Wk.rPure 10 (some 74) (.bool false) rfl rfl (by kernel_rfl) (by kernel_rfl) ?_
                    refine Wk.rPure 11 (some 75) (.int .i64 ran) rfl rfl (by kernel_rfl) (by kernel_rfl) ?_
                    by_cases hx21 : ran ≥ (0 : Int)
                    · refine Wk.rPure 12 (some 76) (.bool true) rfl rfl (by kernel_rfl) (Wk.boolT (b := decide (ran ≥ (0 : Int))) (decide_eq_true (by first | exact hx21 | omega)) (by kernel_rfl)) ?_
                      refine Wk.rPure 13 (some 77) (.bool true) rfl rfl (by kernel_rfl) (by kernel_rfl) ?_
                      refine Wk.rPure 14 (some 78) (.bool true) rfl rfl (by kernel_rfl) (by kernel_rfl) ?_
                      refine Wk.rPure 15 (some 79) (.bool false) rfl rfl (by kernel_rfl) (by kernel_rfl) ?_
                      refine Wk.rPure 16 (some 80) (.bool false) rfl rfl (by kernel_rfl) (by kernel_rfl) ?_
                      refine Wk.rPure 17 (some 81) (.bool false) rfl rfl (by kernel_rfl) (by kernel_rfl) ?_
                      refine Wk.rPure 18 (some 82) (.bool false) rfl rfl (by kernel_rfl) (by kernel_rfl) ?_
                      refine Wk.rPure 19 (some 83) (.pointer (some ⟨w.heap.size, 0, none⟩)) rfl rfl (by kernel_rfl) (by kernel_rfl) ?_
                      refine Wk.rCall 20 (some 84) 11 [.tmp 83] #[23] [.pointer (some ⟨w.heap.size, 0, none⟩)] rfl rfl (by kernel_rfl) rfl (by kernel_rfl) (by kernel_rfl) ?_
                      refine (Over_any t1 w.heap.size _ hu1).mono ?_
                      rintro _ _ ⟨rfl, rfl⟩
                      rw [hover]
                      rw [show (decide (4 ≤ (4 : Int))) = true from rfl]
                      refine ⟨_, rfl, ?_⟩
                      refine Wk.rPure 21 (some 85) (.int .u8 4) rfl rfl (by kernel_rfl) (by kernel_rfl) ?_
                      refine Wk.rPure 22 (some 86) (.bool true) rfl rfl (by kernel_rfl) (Wk.boolT (b := ((4 : Int) == (4 : Int))) (beq_iff_eq.2 (by decide)) (by kernel_rfl)) ?_
                      refine Wk.rPure 23 (some 87) (.bool true) rfl rfl (by kernel_rfl) (by kernel_rfl) ?_
                      refine Wk.rPass 24 (some 88) rfl rfl (by kernel_rfl) ?_
                      refine Wk.rPass 25 (some 89) rfl rfl (by kernel_rfl) ?_
                      refine Wk.rPure 26 (some 90) (.bool true) rfl rfl (by kernel_rfl) (by kernel_rfl) ?_
                      refine Wk.rPure 27 (some 91) (.bool false) rfl rfl (by kernel_rfl) (by kernel_rfl) ?_
                      refine Wk.rPure 28 (some 92) (.bool false) rfl rfl (by kernel_rfl) (by kernel_rfl) ?_
                      refine Wk.rEnd 29 rfl ?_
                      refine Wk.nxt ?_
                      refine wp_cond_false (by kernel_rfl) ?_
                      refine wp_skip ?_
                      refine Wk.nxt ?_
                      exact ⟨by kernel_rfl, rfl⟩
                    · refine Wk.rPure 12 (some 76) (.bool false) rfl rfl (by kernel_rfl) (Wk.boolF (b := decide (ran ≥ (0 : Int))) (decide_eq_false (by first | exact hx21 | omega)) (by kernel_rfl)) ?_
                      refine Wk.rPure 13 (some 77) (.bool false) rfl rfl (by kernel_rfl) (by kernel_rfl) ?_
                      refine Wk.rPass 14 (some 78) rfl rfl (by kernel_rfl) ?_
                      refine Wk.rPass 15 (some 79) rfl rfl (by kernel_rfl) ?_
                      refine Wk.rPure 16 (some 80) (.bool false) rfl rfl (by kernel_rfl) (by kernel_rfl) ?_
                      refine Wk.rPure 17 (some 81) (.bool false) rfl rfl (by kernel_rfl) (by kernel_rfl) ?_
                      refine Wk.rPure 18 (some 82) (.bool false) rfl rfl (by kernel_rfl) (by kernel_rfl) ?_
                      refine Wk.rPure 19 (some 83) (.pointer (some ⟨w.heap.size, 0, none⟩)) rfl rfl (by kernel_rfl) (by kernel_rfl) ?_
                      refine Wk.rCall 20 (some 84) 11 [.tmp 83] #[23] [.pointer (some ⟨w.heap.size, 0, none⟩)] rfl rfl (by kernel_rfl) rfl (by kernel_rfl) (by kernel_rfl) ?_
                      refine (Over_any t1 w.heap.size _ hu1).mono ?_
                      rintro _ _ ⟨rfl, rfl⟩
                      rw [hover]
                      rw [show (decide (4 ≤ (4 : Int))) = true from rfl]
                      refine ⟨_, rfl, ?_⟩
                      refine Wk.rPure 21 (some 85) (.int .u8 4) rfl rfl (by kernel_rfl) (by kernel_rfl) ?_
                      refine Wk.rPure 22 (some 86) (.bool true) rfl rfl (by kernel_rfl) (Wk.boolT (b := ((4 : Int) == (4 : Int))) (beq_iff_eq.2 (by decide)) (by kernel_rfl)) ?_
                      refine Wk.rPure 23 (some 87) (.bool true) rfl rfl (by kernel_rfl) (by kernel_rfl) ?_
                      refine Wk.rPass 24 (some 88) rfl rfl (by kernel_rfl) ?_
                      refine Wk.rPass 25 (some 89) rfl rfl (by kernel_rfl) ?_
                      refine Wk.rPure 26 (some 90) (.bool true) rfl rfl (by kernel_rfl) (by kernel_rfl) ?_
                      refine Wk.rPure 27 (some 91) (.bool false) rfl rfl (by kernel_rfl) (by kernel_rfl) ?_
                      refine Wk.rPure 28 (some 92) (.bool false) rfl rfl (by kernel_rfl) (by kernel_rfl) ?_
                      refine Wk.rEnd 29 rfl ?_
                      refine Wk.nxt ?_
                      refine wp_cond_false (by kernel_rfl) ?_
                      refine wp_skip ?_
                      refine Wk.nxt ?_
                      exact ⟨by kernel_rfl, rfl⟩
                  · refine Wk.rPure 5 (some 69) (.bool false) rfl rfl (by kernel_rfl) (Wk.boolF (b := decide (((k : Nat) : Int) ≥ ((most + budget) + 2))) (decide_eq_false (by first | exact hx20 | omega)) (by kernel_rfl)) ?_
                    refine Wk.rPure 6 (some 70) (.bool false) rfl rfl (by kernel_rfl) (by kernel_rfl) ?_
                    refine Wk.rPass 7 (some 71) rfl rfl (by kernel_rfl) ?_
                    refine Wk.rPass 8 (some 72) rfl rfl (by kernel_rfl) ?_
                    refine Wk.rPure 9 (some 73) (.bool false) rfl rfl (by kernel_rfl) (by kernel_rfl) ?_
                    refine Wk.rPure 10 (some 74) (.bool false) rfl rfl (by kernel_rfl) (by kernel_rfl) ?_
                    refine Wk.rPure 11 (some 75) (.int .i64 ran) rfl rfl (by kernel_rfl) (by kernel_rfl) ?_
                    by_cases hx22 : ran ≥ (0 : Int)
                    · refine Wk.rPure 12 (some 76) (.bool true) rfl rfl (by kernel_rfl) (Wk.boolT (b := decide (ran ≥ (0 : Int))) (decide_eq_true (by first | exact hx22 | omega)) (by kernel_rfl)) ?_
                      refine Wk.rPure 13 (some 77) (.bool true) rfl rfl (by kernel_rfl) (by kernel_rfl) ?_
                      refine Wk.rPure 14 (some 78) (.bool true) rfl rfl (by kernel_rfl) (by kernel_rfl) ?_
                      refine Wk.rPure 15 (some 79) (.bool false) rfl rfl (by kernel_rfl) (by kernel_rfl) ?_
                      refine Wk.rPure 16 (some 80) (.bool false) rfl rfl (by kernel_rfl) (by kernel_rfl) ?_
                      refine Wk.rPure 17 (some 81) (.bool false) rfl rfl (by kernel_rfl) (by kernel_rfl) ?_
                      refine Wk.rPure 18 (some 82) (.bool false) rfl rfl (by kernel_rfl) (by kernel_rfl) ?_
                      refine Wk.rPure 19 (some 83) (.pointer (some ⟨w.heap.size, 0, none⟩)) rfl rfl (by kernel_rfl) (by kernel_rfl) ?_
                      refine Wk.rCall 20 (some 84) 11 [.tmp 83] #[23] [.pointer (some ⟨w.heap.size, 0, none⟩)] rfl rfl (by kernel_rfl) rfl (by kernel_rfl) (by kernel_rfl) ?_
                      refine (Over_any t1 w.heap.size _ hu1).mono ?_
                      rintro _ _ ⟨rfl, rfl⟩
                      rw [hover]
                      rw [show (decide (4 ≤ (4 : Int))) = true from rfl]
                      refine ⟨_, rfl, ?_⟩
                      refine Wk.rPure 21 (some 85) (.int .u8 4) rfl rfl (by kernel_rfl) (by kernel_rfl) ?_
                      refine Wk.rPure 22 (some 86) (.bool true) rfl rfl (by kernel_rfl) (Wk.boolT (b := ((4 : Int) == (4 : Int))) (beq_iff_eq.2 (by decide)) (by kernel_rfl)) ?_
                      refine Wk.rPure 23 (some 87) (.bool true) rfl rfl (by kernel_rfl) (by kernel_rfl) ?_
                      refine Wk.rPass 24 (some 88) rfl rfl (by kernel_rfl) ?_
                      refine Wk.rPass 25 (some 89) rfl rfl (by kernel_rfl) ?_
                      refine Wk.rPure 26 (some 90) (.bool true) rfl rfl (by kernel_rfl) (by kernel_rfl) ?_
                      refine Wk.rPure 27 (some 91) (.bool false) rfl rfl (by kernel_rfl) (by kernel_rfl) ?_
                      refine Wk.rPure 28 (some 92) (.bool false) rfl rfl (by kernel_rfl) (by kernel_rfl) ?_
                      refine Wk.rEnd 29 rfl ?_
                      refine Wk.nxt ?_
                      refine wp_cond_false (by kernel_rfl) ?_
                      refine wp_skip ?_
                      refine Wk.nxt ?_
                      exact ⟨by kernel_rfl, rfl⟩
                    · refine Wk.rPure 12 (some 76) (.bool false) rfl rfl (by kernel_rfl) (Wk.boolF (b := decide (ran ≥ (0 : Int))) (decide_eq_false (by first | exact hx22 | omega)) (by kernel_rfl)) ?_
                      refine Wk.rPure 13 (some 77) (.bool false) rfl rfl (by kernel_rfl) (by kernel_rfl) ?_
                      refine Wk.rPass 14 (some 78) rfl rfl (by kernel_rfl) ?_
                      refine Wk.rPass 15 (some 79) rfl rfl (by kernel_rfl) ?_
                      refine Wk.rPure 16 (some 80) (.bool false) rfl rfl (by kernel_rfl) (by kernel_rfl) ?_
                      refine Wk.rPure 17 (some 81) (.bool false) rfl rfl (by kernel_rfl) (by kernel_rfl) ?_
                      refine Wk.rPure 18 (some 82) (.bool false) rfl rfl (by kernel_rfl) (by kernel_rfl) ?_
                      refine Wk.rPure 19 (some 83) (.pointer (some ⟨w.heap.size, 0, none⟩)) rfl rfl (by kernel_rfl) (by kernel_rfl) ?_
                      refine Wk.rCall 20 (some 84) 11 [.tmp 83] #[23] [.pointer (some ⟨w.heap.size, 0, none⟩)] rfl rfl (by kernel_rfl) rfl (by kernel_rfl) (by kernel_rfl) ?_
                      refine (Over_any t1 w.heap.size _ hu1).mono ?_
                      rintro _ _ ⟨rfl, rfl⟩
                      rw [hover]
                      rw [show (decide (4 ≤ (4 : Int))) = true from rfl]
                      refine ⟨_, rfl, ?_⟩
                      refine Wk.rPure 21 (some 85) (.int .u8 4) rfl rfl (by kernel_rfl) (by kernel_rfl) ?_
                      refine Wk.rPure 22 (some 86) (.bool true) rfl rfl (by kernel_rfl) (Wk.boolT (b := ((4 : Int) == (4 : Int))) (beq_iff_eq.2 (by decide)) (by kernel_rfl)) ?_
                      refine Wk.rPure 23 (some 87) (.bool true) rfl rfl (by kernel_rfl) (by kernel_rfl) ?_
                      refine Wk.rPass 24 (some 88) rfl rfl (by kernel_rfl) ?_
                      refine Wk.rPass 25 (some 89) rfl rfl (by kernel_rfl) ?_
                      refine Wk.rPure 26 (some 90) (.bool true) rfl rfl (by kernel_rfl) (by kernel_rfl) ?_
                      refine Wk.rPure 27 (some 91) (.bool false) rfl rfl (by kernel_rfl) (by kernel_rfl) ?_
                      refine Wk.rPure 28 (some 92) (.bool false) rfl rfl (by kernel_rfl) (by kernel_rfl) ?_
                      refine Wk.rEnd 29 rfl ?_
                      refine Wk.nxt ?_
                      refine wp_cond_false (by kernel_rfl) ?_
                      refine wp_skip ?_
                      refine Wk.nxt ?_
                      exact ⟨by kernel_rfl, rfl⟩
                · rintro aa11 _ ⟨hF11, rfl⟩
                  generalize aa11.tmps = bb11 at hF11
                  subst hF11
                  refine Wk.nxt ?_
                  refine wp_seq ?_
                  refine Wk.cut (fun a wj => a = EndsYes_J15_11 a.tmps (.int .i64 most) (.int .i64 budget) (.slice A n c) (.pointer (some ⟨w.heap.size, 0, none⟩)) (.int .i64 ran) (.int .i64 ((k : Nat) : Int)) (.int .u8 4) ∧ W9 = wj) ?_ ?_
                  · refine wp_seq ?_
                    refine Wk.reg ?_
                    refine Wk.rPure 0 (some 93) (.int .i64 ran) rfl rfl (by kernel_rfl) (by kernel_rfl) ?_
                    by_cases hx23 : ran ≥ (0 : Int)
                    · refine Wk.rPure 1 (some 94) (.bool true) rfl rfl (by kernel_rfl) (Wk.boolT (b := decide (ran ≥ (0 : Int))) (decide_eq_true (by first | exact hx23 | omega)) (by kernel_rfl)) ?_
                      refine Wk.rPure 2 (some 95) (.bool true) rfl rfl (by kernel_rfl) (by kernel_rfl) ?_
                      refine Wk.rPure 3 (some 96) (.pointer (some ⟨w.heap.size, 0, none⟩)) rfl rfl (by kernel_rfl) (by kernel_rfl) ?_
                      refine Wk.rCall 4 (some 97) 11 [.tmp 96] #[23] [.pointer (some ⟨w.heap.size, 0, none⟩)] rfl rfl (by kernel_rfl) rfl (by kernel_rfl) (by kernel_rfl) ?_
                      refine (Over_any t1 w.heap.size _ hu1).mono ?_
                      rintro _ _ ⟨rfl, rfl⟩
                      rw [hover]
                      rw [show (decide (4 ≤ (4 : Int))) = true from rfl]
                      refine ⟨_, rfl, ?_⟩
                      refine Wk.rPure 5 (some 98) (.bool false) rfl rfl (by kernel_rfl) (by kernel_rfl) ?_
                      refine Wk.rPure 6 (some 99) (.bool false) rfl rfl (by kernel_rfl) (by kernel_rfl) ?_
                      refine Wk.rPure 7 (some 100) (.bool false) rfl rfl (by kernel_rfl) (by kernel_rfl) ?_
                      refine Wk.rPass 8 (some 101) rfl rfl (by kernel_rfl) ?_
                      refine Wk.rPass 9 (some 102) rfl rfl (by kernel_rfl) ?_
                      refine Wk.rPass 10 (some 103) rfl rfl (by kernel_rfl) ?_
                      refine Wk.rPass 11 (some 104) rfl rfl (by kernel_rfl) ?_
                      refine Wk.rPass 12 (some 105) rfl rfl (by kernel_rfl) ?_
                      refine Wk.rPass 13 (some 106) rfl rfl (by kernel_rfl) ?_
                      refine Wk.rPass 14 (some 107) rfl rfl (by kernel_rfl) ?_
                      refine Wk.rPass 15 (some 108) rfl rfl (by kernel_rfl) ?_
                      refine Wk.rPass 16 (some 109) rfl rfl (by kernel_rfl) ?_
                      refine Wk.rPass 17 (some 110) rfl rfl (by kernel_rfl) ?_
                      refine Wk.rPure 18 (some 111) (.bool false) rfl rfl (by kernel_rfl) (by kernel_rfl) ?_
                      refine Wk.rEnd 19 rfl ?_
                      refine Wk.nxt ?_
                      refine wp_cond_false (by kernel_rfl) ?_
                      refine wp_skip ?_
                      refine Wk.nxt ?_
                      exact ⟨by kernel_rfl, rfl⟩
                    · refine Wk.rPure 1 (some 94) (.bool false) rfl rfl (by kernel_rfl) (Wk.boolF (b := decide (ran ≥ (0 : Int))) (decide_eq_false (by first | exact hx23 | omega)) (by kernel_rfl)) ?_
                      refine Wk.rPure 2 (some 95) (.bool false) rfl rfl (by kernel_rfl) (by kernel_rfl) ?_
                      refine Wk.rPass 3 (some 96) rfl rfl (by kernel_rfl) ?_
                      refine Wk.rPass 4 (some 97) rfl rfl (by kernel_rfl) ?_
                      refine Wk.rPass 5 (some 98) rfl rfl (by kernel_rfl) ?_
                      refine Wk.rPure 6 (some 99) (.bool false) rfl rfl (by kernel_rfl) (by kernel_rfl) ?_
                      refine Wk.rPure 7 (some 100) (.bool false) rfl rfl (by kernel_rfl) (by kernel_rfl) ?_
                      refine Wk.rPass 8 (some 101) rfl rfl (by kernel_rfl) ?_
                      refine Wk.rPass 9 (some 102) rfl rfl (by kernel_rfl) ?_
                      refine Wk.rPass 10 (some 103) rfl rfl (by kernel_rfl) ?_
                      refine Wk.rPass 11 (some 104) rfl rfl (by kernel_rfl) ?_
                      refine Wk.rPass 12 (some 105) rfl rfl (by kernel_rfl) ?_
                      refine Wk.rPass 13 (some 106) rfl rfl (by kernel_rfl) ?_
                      refine Wk.rPass 14 (some 107) rfl rfl (by kernel_rfl) ?_
                      refine Wk.rPass 15 (some 108) rfl rfl (by kernel_rfl) ?_
                      refine Wk.rPass 16 (some 109) rfl rfl (by kernel_rfl) ?_
                      refine Wk.rPass 17 (some 110) rfl rfl (by kernel_rfl) ?_
                      refine Wk.rPure 18 (some 111) (.bool false) rfl rfl (by kernel_rfl) (by kernel_rfl) ?_
                      refine Wk.rEnd 19 rfl ?_
                      refine Wk.nxt ?_
                      refine wp_cond_false (by kernel_rfl) ?_
                      refine wp_skip ?_
                      refine Wk.nxt ?_
                      exact ⟨by kernel_rfl, rfl⟩
                  · rintro aa12 _ ⟨hF12, rfl⟩
                    generalize aa12.tmps = bb12 at hF12
                    subst hF12
                    refine Wk.nxt ?_
                    refine wp_seq ?_
                    refine Wk.reg ?_
                    refine Wk.rPure 0 (some 112) (.int .u8 4) rfl rfl (by kernel_rfl) (by kernel_rfl) ?_
                    refine Wk.rPure 1 (some 113) (.bool false) rfl rfl (by kernel_rfl) (Wk.boolF (b := ((4 : Int) == (3 : Int))) (beq_eq_false_iff_ne.2 (by decide)) (by kernel_rfl)) ?_
                    refine Wk.rPure 2 (some 114) (.bool false) rfl rfl (by kernel_rfl) (by kernel_rfl) ?_
                    refine Wk.rPass 3 (some 115) rfl rfl (by kernel_rfl) ?_
                    refine Wk.rPass 4 (some 116) rfl rfl (by kernel_rfl) ?_
                    refine Wk.rPure 5 (some 117) (.bool false) rfl rfl (by kernel_rfl) (by kernel_rfl) ?_
                    refine Wk.rEnd 6 rfl ?_
                    refine Wk.nxt ?_
                    refine wp_cond_false (by kernel_rfl) ?_
                    refine wp_skip ?_
                    refine Wk.inN ?_
                    refine Wk.nxt ?_
                    refine Wk.reg ?_
                    refine Wk.rPure 0 (some 38) (.int .i64 ((k : Nat) : Int)) rfl rfl (by kernel_rfl) (by kernel_rfl) ?_
                    refine Wk.rPure 1 (some 39) (.int .i64 ((k + 1 : Nat) : Int)) rfl rfl (by kernel_rfl) (Wk.int64 (n := ((k : Nat) : Int) + 1) (z := ((k + 1 : Nat) : Int)) (by omega) (by omega) (by omega) (by kernel_rfl)) ?_
                    refine Wk.rPure 2 (some 9) (.int .i64 ((k + 1 : Nat) : Int)) rfl rfl (by kernel_rfl) (by kernel_rfl) ?_
                    refine Wk.rEnd 3 rfl ?_
                    refine Wk.nxt ?_
                    have kk24 := Wk.Chg.step HB ch5 trivial
                    have kk25 := Wk.Chg.step kk24 ch7 ⟨.inr (by omega), trivial⟩
                    have kk26 := Wk.Chg.step kk25 ch8 ⟨.inr (by omega), trivial⟩
                    refine ⟨_, ?_, k + 1, t1, ran, rfl, by kernel_rfl, (by omega), hu1, (by first | exact hinv | (rw [if_pos ⟨rfl, by omega⟩] at hinv; exact hinv) | (rw [if_neg (by omega)] at hinv; exact hinv)), kk26⟩
                    · omega
              · refine ⟨_, rfl, ?_⟩
                refine Wk.rPure 4 (some 11) (.int .u8 5) rfl rfl (by kernel_rfl) (by kernel_rfl) ?_
                refine Wk.rEnd 5 rfl ?_
                refine Wk.nxt ?_
                refine wp_seq ?_
                refine Wk.reg ?_
                refine Wk.rPure 0 (some 54) (.int .u8 5) rfl rfl (by kernel_rfl) (by kernel_rfl) ?_
                refine Wk.rPure 1 (some 55) (.bool false) rfl rfl (by kernel_rfl) (Wk.boolF (b := ((5 : Int) == (3 : Int))) (beq_eq_false_iff_ne.2 (by decide)) (by kernel_rfl)) ?_
                refine Wk.rPure 2 (some 56) (.bool false) rfl rfl (by kernel_rfl) (by kernel_rfl) ?_
                refine Wk.rPure 3 (some 57) (.int .u8 5) rfl rfl (by kernel_rfl) (by kernel_rfl) ?_
                refine Wk.rPure 4 (some 58) (.bool false) rfl rfl (by kernel_rfl) (Wk.boolF (b := ((5 : Int) == (4 : Int))) (beq_eq_false_iff_ne.2 (by decide)) (by kernel_rfl)) ?_
                refine Wk.rPure 5 (some 59) (.bool false) rfl rfl (by kernel_rfl) (by kernel_rfl) ?_
                refine Wk.rPure 6 (some 60) (.bool false) rfl rfl (by kernel_rfl) (by kernel_rfl) ?_
                refine Wk.rPure 7 (some 61) (.int .u8 5) rfl rfl (by kernel_rfl) (by kernel_rfl) ?_
                refine Wk.rPure 8 (some 62) (.bool true) rfl rfl (by kernel_rfl) (Wk.boolT (b := ((5 : Int) == (5 : Int))) (beq_iff_eq.2 (by decide)) (by kernel_rfl)) ?_
                refine Wk.rPure 9 (some 63) (.bool true) rfl rfl (by kernel_rfl) (by kernel_rfl) ?_
                refine Wk.rPure 10 (some 12) (.bool true) rfl rfl (by kernel_rfl) (by kernel_rfl) ?_
                refine Wk.rEnd 11 rfl ?_
                refine Wk.nxt ?_
                refine wp_seq ?_
                refine Wk.cut (fun a wj => a = EndsYes_J13_12 a.tmps (.int .i64 most) (.int .i64 budget) (.slice A n c) (.pointer (some ⟨w.heap.size, 0, none⟩)) (.int .i64 ran) (.int .i64 ((k : Nat) : Int)) (.pointer (some ⟨W5.heap.size, 0, none⟩)) (.int .u8 5) ∧ W9 = wj) ?_ ?_
                · refine wp_seq ?_
                  refine Wk.reg ?_
                  refine Wk.rPure 0 (some 64) (.int .i64 ((k : Nat) : Int)) rfl rfl (by kernel_rfl) (by kernel_rfl) ?_
                  refine Wk.rPure 1 (some 65) (.int .i64 most) rfl rfl (by kernel_rfl) (by kernel_rfl) ?_
                  refine Wk.rPure 2 (some 66) (.int .i64 budget) rfl rfl (by kernel_rfl) (by kernel_rfl) ?_
                  refine Wk.rPure 3 (some 67) (.int .i64 (most + budget)) rfl rfl (by kernel_rfl) (Wk.int64 (n := most + budget) (z := most + budget) (by omega) (by omega) (by omega) (by kernel_rfl)) ?_
                  refine Wk.rPure 4 (some 68) (.int .i64 ((most + budget) + 2)) rfl rfl (by kernel_rfl) (Wk.int64 (n := (most + budget) + 2) (z := (most + budget) + 2) (by omega) (by omega) (by omega) (by kernel_rfl)) ?_
                  by_cases hx24 : ((k : Nat) : Int) ≥ ((most + budget) + 2)
                  · refine Wk.rPure 5 (some 69) (.bool true) rfl rfl (by kernel_rfl) (Wk.boolT (b := decide (((k : Nat) : Int) ≥ ((most + budget) + 2))) (decide_eq_true (by first | exact hx24 | omega)) (by kernel_rfl)) ?_
                    refine Wk.rPure 6 (some 70) (.bool true) rfl rfl (by kernel_rfl) (by kernel_rfl) ?_
                    refine Wk.rPure 7 (some 71) (.bool true) rfl rfl (by kernel_rfl) (by kernel_rfl) ?_
                    refine Wk.rPure 8 (some 72) (.bool false) rfl rfl (by kernel_rfl) (by kernel_rfl) ?_
                    refine Wk.rPure 9 (some 73) (.bool false) rfl rfl (by kernel_rfl) (by kernel_rfl) ?_
                    refine Wk.rPure 10 (some 74) (.bool false) rfl rfl (by kernel_rfl) (by kernel_rfl) ?_
                    refine Wk.rPure 11 (some 75) (.int .i64 ran) rfl rfl (by kernel_rfl) (by kernel_rfl) ?_
                    by_cases hx25 : ran ≥ (0 : Int)
                    · refine Wk.rPure 12 (some 76) (.bool true) rfl rfl (by kernel_rfl) (Wk.boolT (b := decide (ran ≥ (0 : Int))) (decide_eq_true (by first | exact hx25 | omega)) (by kernel_rfl)) ?_
                      refine Wk.rPure 13 (some 77) (.bool true) rfl rfl (by kernel_rfl) (by kernel_rfl) ?_
                      refine Wk.rPure 14 (some 78) (.bool true) rfl rfl (by kernel_rfl) (by kernel_rfl) ?_
                      refine Wk.rPure 15 (some 79) (.bool false) rfl rfl (by kernel_rfl) (by kernel_rfl) ?_
                      refine Wk.rPure 16 (some 80) (.bool false) rfl rfl (by kernel_rfl) (by kernel_rfl) ?_
                      refine Wk.rPure 17 (some 81) (.bool false) rfl rfl (by kernel_rfl) (by kernel_rfl) ?_
                      refine Wk.rPure 18 (some 82) (.bool false) rfl rfl (by kernel_rfl) (by kernel_rfl) ?_
                      refine Wk.rPure 19 (some 83) (.pointer (some ⟨w.heap.size, 0, none⟩)) rfl rfl (by kernel_rfl) (by kernel_rfl) ?_
                      refine Wk.rCall 20 (some 84) 11 [.tmp 83] #[23] [.pointer (some ⟨w.heap.size, 0, none⟩)] rfl rfl (by kernel_rfl) rfl (by kernel_rfl) (by kernel_rfl) ?_
                      refine (Over_any t1 w.heap.size _ hu1).mono ?_
                      rintro _ _ ⟨rfl, rfl⟩
                      rw [hover]
                      rw [show (decide (4 ≤ (5 : Int))) = true from rfl]
                      refine ⟨_, rfl, ?_⟩
                      refine Wk.rPure 21 (some 85) (.int .u8 5) rfl rfl (by kernel_rfl) (by kernel_rfl) ?_
                      refine Wk.rPure 22 (some 86) (.bool false) rfl rfl (by kernel_rfl) (Wk.boolF (b := ((5 : Int) == (4 : Int))) (beq_eq_false_iff_ne.2 (by decide)) (by kernel_rfl)) ?_
                      refine Wk.rPure 23 (some 87) (.bool false) rfl rfl (by kernel_rfl) (by kernel_rfl) ?_
                      refine Wk.rPure 24 (some 88) (.int .u8 5) rfl rfl (by kernel_rfl) (by kernel_rfl) ?_
                      refine Wk.rPure 25 (some 89) (.bool true) rfl rfl (by kernel_rfl) (Wk.boolT (b := ((5 : Int) == (5 : Int))) (beq_iff_eq.2 (by decide)) (by kernel_rfl)) ?_
                      refine Wk.rPure 26 (some 90) (.bool true) rfl rfl (by kernel_rfl) (by kernel_rfl) ?_
                      refine Wk.rPure 27 (some 91) (.bool false) rfl rfl (by kernel_rfl) (by kernel_rfl) ?_
                      refine Wk.rPure 28 (some 92) (.bool false) rfl rfl (by kernel_rfl) (by kernel_rfl) ?_
                      refine Wk.rEnd 29 rfl ?_
                      refine Wk.nxt ?_
                      refine wp_cond_false (by kernel_rfl) ?_
                      refine wp_skip ?_
                      refine Wk.nxt ?_
                      exact ⟨by kernel_rfl, rfl⟩
                    · refine Wk.rPure 12 (some 76) (.bool false) rfl rfl (by kernel_rfl) (Wk.boolF (b := decide (ran ≥ (0 : Int))) (decide_eq_false (by first | exact hx25 | omega)) (by kernel_rfl)) ?_
                      refine Wk.rPure 13 (some 77) (.bool false) rfl rfl (by kernel_rfl) (by kernel_rfl) ?_
                      refine Wk.rPass 14 (some 78) rfl rfl (by kernel_rfl) ?_
                      refine Wk.rPass 15 (some 79) rfl rfl (by kernel_rfl) ?_
                      refine Wk.rPure 16 (some 80) (.bool false) rfl rfl (by kernel_rfl) (by kernel_rfl) ?_
                      refine Wk.rPure 17 (some 81) (.bool false) rfl rfl (by kernel_rfl) (by kernel_rfl) ?_
                      refine Wk.rPure 18 (some 82) (.bool false) rfl rfl (by kernel_rfl) (by kernel_rfl) ?_
                      refine Wk.rPure 19 (some 83) (.pointer (some ⟨w.heap.size, 0, none⟩)) rfl rfl (by kernel_rfl) (by kernel_rfl) ?_
                      refine Wk.rCall 20 (some 84) 11 [.tmp 83] #[23] [.pointer (some ⟨w.heap.size, 0, none⟩)] rfl rfl (by kernel_rfl) rfl (by kernel_rfl) (by kernel_rfl) ?_
                      refine (Over_any t1 w.heap.size _ hu1).mono ?_
                      rintro _ _ ⟨rfl, rfl⟩
                      rw [hover]
                      rw [show (decide (4 ≤ (5 : Int))) = true from rfl]
                      refine ⟨_, rfl, ?_⟩
                      refine Wk.rPure 21 (some 85) (.int .u8 5) rfl rfl (by kernel_rfl) (by kernel_rfl) ?_
                      refine Wk.rPure 22 (some 86) (.bool false) rfl rfl (by kernel_rfl) (Wk.boolF (b := ((5 : Int) == (4 : Int))) (beq_eq_false_iff_ne.2 (by decide)) (by kernel_rfl)) ?_
                      refine Wk.rPure 23 (some 87) (.bool false) rfl rfl (by kernel_rfl) (by kernel_rfl) ?_
                      refine Wk.rPure 24 (some 88) (.int .u8 5) rfl rfl (by kernel_rfl) (by kernel_rfl) ?_
                      refine Wk.rPure 25 (some 89) (.bool true) rfl rfl (by kernel_rfl) (Wk.boolT (b := ((5 : Int) == (5 : Int))) (beq_iff_eq.2 (by decide)) (by kernel_rfl)) ?_
                      refine Wk.rPure 26 (some 90) (.bool true) rfl rfl (by kernel_rfl) (by kernel_rfl) ?_
                      refine Wk.rPure 27 (some 91) (.bool false) rfl rfl (by kernel_rfl) (by kernel_rfl) ?_
                      refine Wk.rPure 28 (some 92) (.bool false) rfl rfl (by kernel_rfl) (by kernel_rfl) ?_
                      refine Wk.rEnd 29 rfl ?_
                      refine Wk.nxt ?_
                      refine wp_cond_false (by kernel_rfl) ?_
                      refine wp_skip ?_
                      refine Wk.nxt ?_
                      exact ⟨by kernel_rfl, rfl⟩
                  · refine Wk.rPure 5 (some 69) (.bool false) rfl rfl (by kernel_rfl) (Wk.boolF (b := decide (((k : Nat) : Int) ≥ ((most + budget) + 2))) (decide_eq_false (by first | exact hx24 | omega)) (by kernel_rfl)) ?_
                    refine Wk.rPure 6 (some 70) (.bool false) rfl rfl (by kernel_rfl) (by kernel_rfl) ?_
                    refine Wk.rPass 7 (some 71) rfl rfl (by kernel_rfl) ?_
                    refine Wk.rPass 8 (some 72) rfl rfl (by kernel_rfl) ?_
                    refine Wk.rPure 9 (some 73) (.bool false) rfl rfl (by kernel_rfl) (by kernel_rfl) ?_
                    refine Wk.rPure 10 (some 74) (.bool false) rfl rfl (by kernel_rfl) (by kernel_rfl) ?_
                    refine Wk.rPure 11 (some 75) (.int .i64 ran) rfl rfl (by kernel_rfl) (by kernel_rfl) ?_
                    by_cases hx26 : ran ≥ (0 : Int)
                    · refine Wk.rPure 12 (some 76) (.bool true) rfl rfl (by kernel_rfl) (Wk.boolT (b := decide (ran ≥ (0 : Int))) (decide_eq_true (by first | exact hx26 | omega)) (by kernel_rfl)) ?_
                      refine Wk.rPure 13 (some 77) (.bool true) rfl rfl (by kernel_rfl) (by kernel_rfl) ?_
                      refine Wk.rPure 14 (some 78) (.bool true) rfl rfl (by kernel_rfl) (by kernel_rfl) ?_
                      refine Wk.rPure 15 (some 79) (.bool false) rfl rfl (by kernel_rfl) (by kernel_rfl) ?_
                      refine Wk.rPure 16 (some 80) (.bool false) rfl rfl (by kernel_rfl) (by kernel_rfl) ?_
                      refine Wk.rPure 17 (some 81) (.bool false) rfl rfl (by kernel_rfl) (by kernel_rfl) ?_
                      refine Wk.rPure 18 (some 82) (.bool false) rfl rfl (by kernel_rfl) (by kernel_rfl) ?_
                      refine Wk.rPure 19 (some 83) (.pointer (some ⟨w.heap.size, 0, none⟩)) rfl rfl (by kernel_rfl) (by kernel_rfl) ?_
                      refine Wk.rCall 20 (some 84) 11 [.tmp 83] #[23] [.pointer (some ⟨w.heap.size, 0, none⟩)] rfl rfl (by kernel_rfl) rfl (by kernel_rfl) (by kernel_rfl) ?_
                      refine (Over_any t1 w.heap.size _ hu1).mono ?_
                      rintro _ _ ⟨rfl, rfl⟩
                      rw [hover]
                      rw [show (decide (4 ≤ (5 : Int))) = true from rfl]
                      refine ⟨_, rfl, ?_⟩
                      refine Wk.rPure 21 (some 85) (.int .u8 5) rfl rfl (by kernel_rfl) (by kernel_rfl) ?_
                      refine Wk.rPure 22 (some 86) (.bool false) rfl rfl (by kernel_rfl) (Wk.boolF (b := ((5 : Int) == (4 : Int))) (beq_eq_false_iff_ne.2 (by decide)) (by kernel_rfl)) ?_
                      refine Wk.rPure 23 (some 87) (.bool false) rfl rfl (by kernel_rfl) (by kernel_rfl) ?_
                      refine Wk.rPure 24 (some 88) (.int .u8 5) rfl rfl (by kernel_rfl) (by kernel_rfl) ?_
                      refine Wk.rPure 25 (some 89) (.bool true) rfl rfl (by kernel_rfl) (Wk.boolT (b := ((5 : Int) == (5 : Int))) (beq_iff_eq.2 (by decide)) (by kernel_rfl)) ?_
                      refine Wk.rPure 26 (some 90) (.bool true) rfl rfl (by kernel_rfl) (by kernel_rfl) ?_
                      refine Wk.rPure 27 (some 91) (.bool false) rfl rfl (by kernel_rfl) (by kernel_rfl) ?_
                      refine Wk.rPure 28 (some 92) (.bool false) rfl rfl (by kernel_rfl) (by kernel_rfl) ?_
                      refine Wk.rEnd 29 rfl ?_
                      refine Wk.nxt ?_
                      refine wp_cond_false (by kernel_rfl) ?_
                      refine wp_skip ?_
                      refine Wk.nxt ?_
                      exact ⟨by kernel_rfl, rfl⟩
                    · refine Wk.rPure 12 (some 76) (.bool false) rfl rfl (by kernel_rfl) (Wk.boolF (b := decide (ran ≥ (0 : Int))) (decide_eq_false (by first | exact hx26 | omega)) (by kernel_rfl)) ?_
                      refine Wk.rPure 13 (some 77) (.bool false) rfl rfl (by kernel_rfl) (by kernel_rfl) ?_
                      refine Wk.rPass 14 (some 78) rfl rfl (by kernel_rfl) ?_
                      refine Wk.rPass 15 (some 79) rfl rfl (by kernel_rfl) ?_
                      refine Wk.rPure 16 (some 80) (.bool false) rfl rfl (by kernel_rfl) (by kernel_rfl) ?_
                      refine Wk.rPure 17 (some 81) (.bool false) rfl rfl (by kernel_rfl) (by kernel_rfl) ?_
                      refine Wk.rPure 18 (some 82) (.bool false) rfl rfl (by kernel_rfl) (by kernel_rfl) ?_
                      refine Wk.rPure 19 (some 83) (.pointer (some ⟨w.heap.size, 0, none⟩)) rfl rfl (by kernel_rfl) (by kernel_rfl) ?_
                      refine Wk.rCall 20 (some 84) 11 [.tmp 83] #[23] [.pointer (some ⟨w.heap.size, 0, none⟩)] rfl rfl (by kernel_rfl) rfl (by kernel_rfl) (by kernel_rfl) ?_
                      refine (Over_any t1 w.heap.size _ hu1).mono ?_
                      rintro _ _ ⟨rfl, rfl⟩
                      rw [hover]
                      rw [show (decide (4 ≤ (5 : Int))) = true from rfl]
                      refine ⟨_, rfl, ?_⟩
                      refine Wk.rPure 21 (some 85) (.int .u8 5) rfl rfl (by kernel_rfl) (by kernel_rfl) ?_
                      refine Wk.rPure 22 (some 86) (.bool false) rfl rfl (by kernel_rfl) (Wk.boolF (b := ((5 : Int) == (4 : Int))) (beq_eq_false_iff_ne.2 (by decide)) (by kernel_rfl)) ?_
                      refine Wk.rPure 23 (some 87) (.bool false) rfl rfl (by kernel_rfl) (by kernel_rfl) ?_
                      refine Wk.rPure 24 (some 88) (.int .u8 5) rfl rfl (by kernel_rfl) (by kernel_rfl) ?_
                      refine Wk.rPure 25 (some 89) (.bool true) rfl rfl (by kernel_rfl) (Wk.boolT (b := ((5 : Int) == (5 : Int))) (beq_iff_eq.2 (by decide)) (by kernel_rfl)) ?_
                      refine Wk.rPure 26 (some 90) (.bool true) rfl rfl (by kernel_rfl) (by kernel_rfl) ?_
                      refine Wk.rPure 27 (some 91) (.bool false) rfl rfl (by kernel_rfl) (by kernel_rfl) ?_
                      refine Wk.rPure 28 (some 92) (.bool false) rfl rfl (by kernel_rfl) (by kernel_rfl) ?_
                      refine Wk.rEnd 29 rfl ?_
                      refine Wk.nxt ?_
                      refine wp_cond_false (by kernel_rfl) ?_
                      refine wp_skip ?_
                      refine Wk.nxt ?_
                      exact ⟨by kernel_rfl, rfl⟩
                · rintro aa13 _ ⟨hF13, rfl⟩
                  generalize aa13.tmps = bb13 at hF13
                  subst hF13
                  refine Wk.nxt ?_
                  refine wp_seq ?_
                  refine Wk.cut (fun a wj => a = EndsYes_J15_13 a.tmps (.int .i64 most) (.int .i64 budget) (.slice A n c) (.pointer (some ⟨w.heap.size, 0, none⟩)) (.int .i64 ran) (.int .i64 ((k : Nat) : Int)) (.int .u8 5) ∧ W9 = wj) ?_ ?_
                  · refine wp_seq ?_
                    refine Wk.reg ?_
                    refine Wk.rPure 0 (some 93) (.int .i64 ran) rfl rfl (by kernel_rfl) (by kernel_rfl) ?_
                    by_cases hx27 : ran ≥ (0 : Int)
                    · refine Wk.rPure 1 (some 94) (.bool true) rfl rfl (by kernel_rfl) (Wk.boolT (b := decide (ran ≥ (0 : Int))) (decide_eq_true (by first | exact hx27 | omega)) (by kernel_rfl)) ?_
                      refine Wk.rPure 2 (some 95) (.bool true) rfl rfl (by kernel_rfl) (by kernel_rfl) ?_
                      refine Wk.rPure 3 (some 96) (.pointer (some ⟨w.heap.size, 0, none⟩)) rfl rfl (by kernel_rfl) (by kernel_rfl) ?_
                      refine Wk.rCall 4 (some 97) 11 [.tmp 96] #[23] [.pointer (some ⟨w.heap.size, 0, none⟩)] rfl rfl (by kernel_rfl) rfl (by kernel_rfl) (by kernel_rfl) ?_
                      refine (Over_any t1 w.heap.size _ hu1).mono ?_
                      rintro _ _ ⟨rfl, rfl⟩
                      rw [hover]
                      rw [show (decide (4 ≤ (5 : Int))) = true from rfl]
                      refine ⟨_, rfl, ?_⟩
                      refine Wk.rPure 5 (some 98) (.bool false) rfl rfl (by kernel_rfl) (by kernel_rfl) ?_
                      refine Wk.rPure 6 (some 99) (.bool false) rfl rfl (by kernel_rfl) (by kernel_rfl) ?_
                      refine Wk.rPure 7 (some 100) (.bool false) rfl rfl (by kernel_rfl) (by kernel_rfl) ?_
                      refine Wk.rPass 8 (some 101) rfl rfl (by kernel_rfl) ?_
                      refine Wk.rPass 9 (some 102) rfl rfl (by kernel_rfl) ?_
                      refine Wk.rPass 10 (some 103) rfl rfl (by kernel_rfl) ?_
                      refine Wk.rPass 11 (some 104) rfl rfl (by kernel_rfl) ?_
                      refine Wk.rPass 12 (some 105) rfl rfl (by kernel_rfl) ?_
                      refine Wk.rPass 13 (some 106) rfl rfl (by kernel_rfl) ?_
                      refine Wk.rPass 14 (some 107) rfl rfl (by kernel_rfl) ?_
                      refine Wk.rPass 15 (some 108) rfl rfl (by kernel_rfl) ?_
                      refine Wk.rPass 16 (some 109) rfl rfl (by kernel_rfl) ?_
                      refine Wk.rPass 17 (some 110) rfl rfl (by kernel_rfl) ?_
                      refine Wk.rPure 18 (some 111) (.bool false) rfl rfl (by kernel_rfl) (by kernel_rfl) ?_
                      refine Wk.rEnd 19 rfl ?_
                      refine Wk.nxt ?_
                      refine wp_cond_false (by kernel_rfl) ?_
                      refine wp_skip ?_
                      refine Wk.nxt ?_
                      exact ⟨by kernel_rfl, rfl⟩
                    · refine Wk.rPure 1 (some 94) (.bool false) rfl rfl (by kernel_rfl) (Wk.boolF (b := decide (ran ≥ (0 : Int))) (decide_eq_false (by first | exact hx27 | omega)) (by kernel_rfl)) ?_
                      refine Wk.rPure 2 (some 95) (.bool false) rfl rfl (by kernel_rfl) (by kernel_rfl) ?_
                      refine Wk.rPass 3 (some 96) rfl rfl (by kernel_rfl) ?_
                      refine Wk.rPass 4 (some 97) rfl rfl (by kernel_rfl) ?_
                      refine Wk.rPass 5 (some 98) rfl rfl (by kernel_rfl) ?_
                      refine Wk.rPure 6 (some 99) (.bool false) rfl rfl (by kernel_rfl) (by kernel_rfl) ?_
                      refine Wk.rPure 7 (some 100) (.bool false) rfl rfl (by kernel_rfl) (by kernel_rfl) ?_
                      refine Wk.rPass 8 (some 101) rfl rfl (by kernel_rfl) ?_
                      refine Wk.rPass 9 (some 102) rfl rfl (by kernel_rfl) ?_
                      refine Wk.rPass 10 (some 103) rfl rfl (by kernel_rfl) ?_
                      refine Wk.rPass 11 (some 104) rfl rfl (by kernel_rfl) ?_
                      refine Wk.rPass 12 (some 105) rfl rfl (by kernel_rfl) ?_
                      refine Wk.rPass 13 (some 106) rfl rfl (by kernel_rfl) ?_
                      refine Wk.rPass 14 (some 107) rfl rfl (by kernel_rfl) ?_
                      refine Wk.rPass 15 (some 108) rfl rfl (by kernel_rfl) ?_
                      refine Wk.rPass 16 (some 109) rfl rfl (by kernel_rfl) ?_
                      refine Wk.rPass 17 (some 110) rfl rfl (by kernel_rfl) ?_
                      refine Wk.rPure 18 (some 111) (.bool false) rfl rfl (by kernel_rfl) (by kernel_rfl) ?_
                      refine Wk.rEnd 19 rfl ?_
                      refine Wk.nxt ?_
                      refine wp_cond_false (by kernel_rfl) ?_
                      refine wp_skip ?_
                      refine Wk.nxt ?_
                      exact ⟨by kernel_rfl, rfl⟩
                  · rintro aa14 _ ⟨hF14, rfl⟩
                    generalize aa14.tmps = bb14 at hF14
                    subst hF14
                    refine Wk.nxt ?_
                    refine wp_seq ?_
                    refine Wk.reg ?_
                    refine Wk.rPure 0 (some 112) (.int .u8 5) rfl rfl (by kernel_rfl) (by kernel_rfl) ?_
                    refine Wk.rPure 1 (some 113) (.bool false) rfl rfl (by kernel_rfl) (Wk.boolF (b := ((5 : Int) == (3 : Int))) (beq_eq_false_iff_ne.2 (by decide)) (by kernel_rfl)) ?_
                    refine Wk.rPure 2 (some 114) (.bool false) rfl rfl (by kernel_rfl) (by kernel_rfl) ?_
                    refine Wk.rPass 3 (some 115) rfl rfl (by kernel_rfl) ?_
                    refine Wk.rPass 4 (some 116) rfl rfl (by kernel_rfl) ?_
                    refine Wk.rPure 5 (some 117) (.bool false) rfl rfl (by kernel_rfl) (by kernel_rfl) ?_
                    refine Wk.rEnd 6 rfl ?_
                    refine Wk.nxt ?_
                    refine wp_cond_false (by kernel_rfl) ?_
                    refine wp_skip ?_
                    refine Wk.inN ?_
                    refine Wk.nxt ?_
                    refine Wk.reg ?_
                    refine Wk.rPure 0 (some 38) (.int .i64 ((k : Nat) : Int)) rfl rfl (by kernel_rfl) (by kernel_rfl) ?_
                    refine Wk.rPure 1 (some 39) (.int .i64 ((k + 1 : Nat) : Int)) rfl rfl (by kernel_rfl) (Wk.int64 (n := ((k : Nat) : Int) + 1) (z := ((k + 1 : Nat) : Int)) (by omega) (by omega) (by omega) (by kernel_rfl)) ?_
                    refine Wk.rPure 2 (some 9) (.int .i64 ((k + 1 : Nat) : Int)) rfl rfl (by kernel_rfl) (by kernel_rfl) ?_
                    refine Wk.rEnd 3 rfl ?_
                    refine Wk.nxt ?_
                    have kk27 := Wk.Chg.step HB ch5 trivial
                    have kk28 := Wk.Chg.step kk27 ch7 ⟨.inr (by omega), trivial⟩
                    have kk29 := Wk.Chg.step kk28 ch8 ⟨.inr (by omega), trivial⟩
                    refine ⟨_, ?_, k + 1, t1, ran, rfl, by kernel_rfl, (by omega), hu1, (by first | exact hinv | (rw [if_pos ⟨rfl, by omega⟩] at hinv; exact hinv) | (rw [if_neg (by omega)] at hinv; exact hinv)), kk29⟩
                    · omega
          · refine Wk.rPure 5 (some 37) (.bool false) rfl rfl (by kernel_rfl) (Wk.boolF (b := decide (((k : Nat) : Int) ≤ ((most + budget) + 4))) (decide_eq_false (by first | exact hx4 | omega)) (by kernel_rfl)) ?_
            refine Wk.rEnd 6 rfl ?_
            refine Wk.nxt ?_
            refine wp_cond_false (by kernel_rfl) ?_
            refine wp_exit ?_
            refine Wk.thX ?_
            refine Wk.thX ?_
            refine Wk.inX ?_
            refine Wk.nxt ?_
            refine wp_seq ?_
            refine Wk.reg ?_
            refine Wk.rPure 0 (some 119) (.pointer (some ⟨w.heap.size, 0, none⟩)) rfl rfl (by kernel_rfl) (by kernel_rfl) ?_
            refine Wk.rCall 1 (some 120) 11 [.tmp 119] #[23] [.pointer (some ⟨w.heap.size, 0, none⟩)] rfl rfl (by kernel_rfl) rfl (by kernel_rfl) (by kernel_rfl) ?_
            refine (Over_any t w.heap.size _ hG).mono ?_
            rintro _ _ ⟨rfl, rfl⟩
            obtain ⟨ov, hov⟩ : ∃ ov, (t.state == 4) = ov := ⟨_, rfl⟩
            rw [hov]
            refine ⟨_, rfl, ?_⟩
            refine Wk.rPure 2 (some 121) (.bool ov) rfl rfl (by kernel_rfl) (by kernel_rfl) ?_
            cases ov
            · refine Wk.rPure 3 (some 122) (.pointer (some ⟨w.heap.size, 0, none⟩)) rfl rfl (by kernel_rfl) (by kernel_rfl) ?_
              refine Wk.rPure 4 (some 123) (.int .i64 most) rfl rfl (by kernel_rfl) (by kernel_rfl) ?_
              refine Wk.rPure 5 (some 124) (.int .i64 budget) rfl rfl (by kernel_rfl) (by kernel_rfl) ?_
              refine Wk.rPure 6 (some 125) (.int .i64 (most + budget)) rfl rfl (by kernel_rfl) (Wk.int64 (n := most + budget) (z := most + budget) (by omega) (by omega) (by omega) (by kernel_rfl)) ?_
              refine Wk.rPure 7 (some 126) (.int .i64 ((most + budget) + 5)) rfl rfl (by kernel_rfl) (Wk.int64 (n := (most + budget) + 5) (z := (most + budget) + 5) (by omega) (by omega) (by omega) (by kernel_rfl)) ?_
              refine Wk.rPure 8 (some 127) (.agg #[.bool false, .bool false, .bool false, .bool false, .bool false, .bool false, .bool true, .bool false]) rfl rfl (by kernel_rfl) (by kernel_rfl) ?_
              refine Wk.rCall 9 (some 128) 10 [.tmp 122, .tmp 126, .tmp 127] #[23, 3, 28] [.pointer (some ⟨w.heap.size, 0, none⟩), .int .i64 ((most + budget) + 5), .agg #[.bool false, .bool false, .bool false, .bool false, .bool false, .bool false, .bool true, .bool false]] rfl rfl (by kernel_rfl) rfl (by kernel_rfl) (by kernel_rfl) ?_
              have hfin := ends_fin hI (show ¬ (t.state = 4) by simpa using hov) (by omega) ((most + budget) + 5)
              refine (Step_any t ((most + budget) + 5) (⟨false, false, false, false, false, false, true, false⟩ : Fct) w.heap.size _ hG hI.ok ⟨by omega, by omega⟩).mono ?_
              rintro _ W10 ⟨rfl, hu2⟩
              rw [hfin]
              have ch9 := Mur.Upd.chg hu2
              have zz9 := ch9.size
              refine ⟨_, rfl, ?_⟩
              refine Wk.rPure 10 (some 129) (.bool true) rfl rfl (by kernel_rfl) (Wk.boolT (b := ((4 : Int) == (4 : Int))) (beq_iff_eq.2 (by decide)) (by kernel_rfl)) ?_
              refine Wk.rPure 11 (some 130) (.bool true) rfl rfl (by kernel_rfl) (by kernel_rfl) ?_
              refine Wk.rPure 12 (some 131) (.bool true) rfl rfl (by kernel_rfl) (by kernel_rfl) ?_
              refine Wk.rCall 13 (some 132) 8 [] #[] [] rfl rfl (by kernel_rfl) rfl (by kernel_rfl) (by kernel_rfl) ?_
              refine (known_any W10).mono ?_
              rintro _ W11 ⟨rfl, hB4⟩
              have ch10 := Wk.Chg.ofBelow hB4
              have zz10 := ch10.size
              refine ⟨_, rfl, ?_⟩
              refine Wk.rPure 14 (some 133) (.bool true) rfl rfl (by kernel_rfl) (by kernel_rfl) ?_
              refine Wk.rPure 15 (some 6) (.bool true) rfl rfl (by kernel_rfl) (by kernel_rfl) ?_
              refine Wk.rEnd 16 rfl ?_
              refine Wk.nxt ?_
              refine wp_ret ?_
              have kk30 := Wk.Chg.step HB ch9 ⟨.inr (by omega), trivial⟩
              have kk31 := Wk.Chg.step kk30 ch10 trivial
              refine Wk.ret (.bool true) rfl (by kernel_rfl) ?_
              exact ⟨rfl, Wk.Chg.below0 kk31⟩
            · refine Wk.rPass 3 (some 122) rfl rfl (by kernel_rfl) ?_
              refine Wk.rPass 4 (some 123) rfl rfl (by kernel_rfl) ?_
              refine Wk.rPass 5 (some 124) rfl rfl (by kernel_rfl) ?_
              refine Wk.rPass 6 (some 125) rfl rfl (by kernel_rfl) ?_
              refine Wk.rPass 7 (some 126) rfl rfl (by kernel_rfl) ?_
              refine Wk.rPass 8 (some 127) rfl rfl (by kernel_rfl) ?_
              refine Wk.rPass 9 (some 128) rfl rfl (by kernel_rfl) ?_
              refine Wk.rPass 10 (some 129) rfl rfl (by kernel_rfl) ?_
              refine Wk.rPure 11 (some 130) (.bool true) rfl rfl (by kernel_rfl) (by kernel_rfl) ?_
              refine Wk.rPure 12 (some 131) (.bool true) rfl rfl (by kernel_rfl) (by kernel_rfl) ?_
              refine Wk.rCall 13 (some 132) 8 [] #[] [] rfl rfl (by kernel_rfl) rfl (by kernel_rfl) (by kernel_rfl) ?_
              refine (known_any W5).mono ?_
              rintro _ W12 ⟨rfl, hB5⟩
              have ch11 := Wk.Chg.ofBelow hB5
              have zz11 := ch11.size
              refine ⟨_, rfl, ?_⟩
              refine Wk.rPure 14 (some 133) (.bool true) rfl rfl (by kernel_rfl) (by kernel_rfl) ?_
              refine Wk.rPure 15 (some 6) (.bool true) rfl rfl (by kernel_rfl) (by kernel_rfl) ?_
              refine Wk.rEnd 16 rfl ?_
              refine Wk.nxt ?_
              refine wp_ret ?_
              have kk32 := Wk.Chg.step HB ch11 trivial
              refine Wk.ret (.bool true) rfl (by kernel_rfl) ?_
              exact ⟨rfl, Wk.Chg.below0 kk32⟩
end Go.Proofs.Ytidhohnhhhooaaa
