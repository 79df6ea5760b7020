/- Twins of functions, printed by gen.py. Conditions: none. -/
import Derived.Test.YtfdlgmbbflmbgaaNT2
import Derived.KernelRfl
set_option linter.unusedVariables false
set_option maxRecDepth 100000
set_option maxHeartbeats 8000000
namespace Go.Proofs.Ytfdlgmbbflmbgaa.Av
open Go

/-! ### 79: (*lariat/lariatref13.reader).unary -/
def X79 : Aux := ⟨[(1000011, [1, 4, 5, 6, 7, 8, 9, 10, 11, 12, 13, 14, 15, 16, 17, 18, 19, 20, 21, 22, 23, 24, 25, 26, 27, 28, 29, 30, 31, 32, 33, 34, 35, 36, 37, 38, 39, 40, 41, 42, 43, 44, 45, 46, 47, 48, 49, 50, 51, 52, 53, 54, 55, 56, 57, 58, 59, 60, 61, 62, 63, 64, 65, 66, 67, 68, 69, 70, 71, 72, 73, 74, 75, 76, 77, 78, 79, 80, 81, 82, 83, 84, 85, 86, 87, 88, 89, 90, 91, 92, 93, 94, 95, 96, 97, 98, 99, 100, 101, 102, 103, 104, 105, 106, 107, 108, 109, 110, 111, 112, 113, 114, 115, 116, 117, 118, 119, 120, 121, 122, 123, 124, 125, 126, 127, 128, 129, 130, 131, 132, 133, 134, 135, 136, 137, 138, 139, 140, 141, 142, 143, 144, 145, 146, 147, 148, 149, 150, 151, 152, 153, 154, 155, 156, 157, 158, 159, 160, 161, 162, 163, 164, 165, 166, 167, 168, 169, 170, 171, 172, 173, 174, 175, 176, 177, 178, 179, 180, 181, 182, 183, 184, 185, 186, 187, 188, 189, 190, 191, 192, 193, 194, 195, 196, 197]), (1000021, [1, 2, 3, 4, 5, 6, 7, 8, 9, 10, 11, 12, 13, 14, 15, 16, 17, 18, 19, 20, 21, 22, 23, 24, 25, 26, 27, 28, 29, 30, 31, 32, 33, 34, 35, 36, 37, 38, 39, 40, 41, 42, 43, 44, 45, 46, 47, 48, 49, 50, 51, 52, 53, 54, 55, 56, 57, 58, 59, 60, 61, 62, 63, 64, 65, 66, 67, 68, 69, 70, 71, 72, 73, 74, 75, 76, 77, 78, 79, 80, 81, 82, 83, 84, 85, 86, 87, 88, 89, 90, 91, 92, 93, 94, 95, 96, 97, 98, 99, 100, 101, 102, 103, 104, 105, 106, 107, 108, 109, 110, 111, 112, 113, 114, 115, 116, 117, 118, 119, 120, 121, 122, 123, 124, 125, 126, 127, 128, 129, 130, 131, 132, 133, 134, 135, 136, 137, 138, 139, 140, 141, 142, 143, 144, 145, 146, 147, 148, 149, 150, 151, 152, 153, 154, 155, 156, 157, 158, 159, 160, 161, 162, 163, 164, 165, 166, 167, 168, 169, 170, 171, 172, 173, 174, 175, 176, 177, 178, 179, 180, 181, 182, 183, 184, 185, 186, 187, 188, 189, 190, 191, 192, 193, 194, 195, 196, 197]), (1000024, [1, 2, 3, 4, 5, 6, 7, 8, 9, 10, 11, 12, 13, 14, 15, 16, 17, 18, 19, 20, 21, 22, 23, 24, 25, 26, 27, 28, 29, 30, 31, 32, 33, 34, 35, 36, 37, 38, 39, 40, 41, 42, 43, 44, 45, 46, 47, 48, 49, 50, 51, 52, 53, 54, 55, 56, 57, 58, 59, 60, 61, 62, 63, 64, 65, 66, 67, 68, 69, 70, 71, 72, 73, 74, 75, 76, 77, 78, 79, 80, 81, 82, 83, 84, 85, 86, 87, 88, 89, 90, 91, 92, 93, 94, 95, 96, 97, 98, 99, 100, 101, 102, 103, 104, 105, 106, 107, 108, 109, 110, 111, 112, 113, 114, 115, 116, 117, 118, 119, 120, 121, 122, 123, 124, 125, 126, 127, 128, 129, 130, 131, 132, 133, 134, 135, 136, 137, 138, 139, 140, 141, 142, 143, 144, 145, 146, 147, 148, 149, 150, 151, 152, 153, 154, 155, 156, 157, 158, 159, 160, 161, 162, 163, 164, 165, 166, 167, 168, 169, 170, 171, 172, 173, 174, 175, 176, 177, 178, 179, 180, 181, 182, 183, 184, 185, 186, 187, 188, 189, 190, 191, 192, 193, 194, 195, 196, 197]), (1000028, [1, 2, 3, 5, 6, 7, 8, 9, 10, 11, 12, 13, 14, 15, 16, 17, 18, 19, 20, 21, 22, 23, 24, 25, 26, 27, 28, 29, 30, 31, 32, 33, 34, 35, 36, 37, 38, 39, 40, 41, 42, 43, 44, 45, 46, 47, 48, 49, 50, 51, 52, 53, 54, 55, 56, 57, 58, 59, 60, 61, 62, 63, 64, 65, 66, 67, 68, 69, 70, 71, 72, 73, 74, 75, 76, 77, 78, 79, 80, 81, 82, 83, 84, 85, 86, 87, 88, 89, 90, 91, 92, 93, 94, 95, 96, 97, 98, 99, 100, 101, 102, 103, 104, 105, 106, 107, 108, 109, 110, 111, 112, 113, 114, 115, 116, 117, 118, 119, 120, 121, 122, 123, 124, 125, 126, 127, 128, 129, 130, 131, 132, 133, 134, 135, 136, 137, 138, 139, 140, 141, 142, 143, 144, 145, 146, 147, 148, 149, 150, 151, 152, 153, 154, 155, 156, 157, 158, 159, 160, 161, 162, 163, 164, 165, 166, 167, 168, 169, 170, 171, 172, 173, 174, 175, 176, 177, 178, 179, 180, 181, 182, 183, 184, 185, 186, 187, 188, 189, 190, 191, 192, 193, 194, 195, 196, 197])], [(1, .lin [0, 1, 2, 3, 4, 5, 6, 7, 8, 9, 10, 11]), (28, .lin [0, 1, 2, 3, 4, 5, 6, 7, 8, 9, 10, 11, 12, 13, 14, 15, 16])]⟩
inductive S79 where
  | l1011 (v1011_0 : Int) (v1011_1 : List ty33.den) (v1011_2 : Int) (v1011_3 : Int) (v1011_4 : Int) (v1011_5 : Int) (v1011_6 : List UInt8) (v1011_7 : Int) (v1011_8 : Int) (v1011_9 : List ty66.den)
  | l1021 (v1021_0 : List ty33.den) (v1021_1 : Int) (v1021_2 : Int) (v1021_3 : Int) (v1021_4 : List ty66.den)
  | l1024 (v1024_0 : List ty33.den) (v1024_1 : Int) (v1024_2 : Int) (v1024_3 : Int) (v1024_4 : List ty66.den)
  | l1028 (v1028_0 : Int) (v1028_1 : List ty33.den) (v1028_2 : Int) (v1028_3 : Int) (v1028_4 : Int) (v1028_5 : List ty66.den)
def T79 {R : Type} (B : Ops) (c88 : List UInt8 → List ty33.den → Int → Int → Int → List ty66.den → Option (Bool × (List ty33.den) × Int × Int × Int × (List ty66.den))) (c79 : List ty33.den → Int → Int → Int → List ty66.den → Option ((List ty33.den) × Int × Int × Int × (List ty66.den))) (c62 : Int → List ty33.den → Int → Int → Int → List ty66.den → Option ((List ty33.den) × Int × Int × Int × (List ty66.den))) (c89 : List UInt8 → List ty33.den → Int → Int → Int → List ty66.den → Option ((List ty33.den) × Int × Int × Int × (List ty66.den))) (c90 : List ty33.den → Int → Option (Int × Int × (List ty98.den))) (c63 : Int → Int → List ty33.den → Int → Int → Int → List ty66.den → Option ((List ty33.den) × Int × Int × Int × (List ty66.den))) (p0 : List ty33.den) (p1 : Int) (p2 : Int) (p3 : Int) (p4 : List ty66.den) (again : S79 → Option R) (k : ((List ty33.den) × Int × Int × Int × (List ty66.den)) → Option R) : Option S79 → Option R
  | none =>
    cond (!Ops.eq B p2 (0))
     (
      k ((p0, p1, p2, p3, p4)))
     (
      cond (Ops.inb B p1 (List.length p0))
       (
        ob (c88 (Array.toList (ByteArray.data { data := List.toArray (33 :: mt UInt8) })) p0 p1 p2 p3 p4) fun y0 =>
        cond (Prod.fst y0)
         (
          again (.l1011 4 (Prod.fst (Prod.snd y0)) (Prod.fst (Prod.snd (Prod.snd y0))) (Prod.fst (Prod.snd (Prod.snd (Prod.snd y0)))) (Prod.fst (Prod.snd (Prod.snd (Prod.snd (Prod.snd y0))))) (Prod.fst (List.getD p0 (Int.toNat p1) (Ty.dflt ty33))) (Prod.fst (Prod.snd (List.getD p0 (Int.toNat p1) (Ty.dflt ty33)))) (Prod.fst (Prod.snd (Prod.snd (List.getD p0 (Int.toNat p1) (Ty.dflt ty33))))) (Prod.snd (Prod.snd (Prod.snd (List.getD p0 (Int.toNat p1) (Ty.dflt ty33))))) (Prod.snd (Prod.snd (Prod.snd (Prod.snd (Prod.snd y0)))))))
         (
          cond (Ops.eq B (Prod.fst (List.getD p0 (Int.toNat p1) (Ty.dflt ty33))) (3))
           (
            cond (Prod.fst (Prod.snd (List.getD p0 (Int.toNat p1) (Ty.dflt ty33))) == Array.toList (ByteArray.data { data := List.toArray (88 :: mt UInt8) }))
             (
              again (.l1011 8 (Prod.fst (Prod.snd y0)) (Prod.fst (Prod.snd (Prod.snd y0))) (Prod.fst (Prod.snd (Prod.snd (Prod.snd y0)))) (Prod.fst (Prod.snd (Prod.snd (Prod.snd (Prod.snd y0))))) (Prod.fst (List.getD p0 (Int.toNat p1) (Ty.dflt ty33))) (Prod.fst (Prod.snd (List.getD p0 (Int.toNat p1) (Ty.dflt ty33)))) (Prod.fst (Prod.snd (Prod.snd (List.getD p0 (Int.toNat p1) (Ty.dflt ty33))))) (Prod.snd (Prod.snd (Prod.snd (List.getD p0 (Int.toNat p1) (Ty.dflt ty33))))) (Prod.snd (Prod.snd (Prod.snd (Prod.snd (Prod.snd y0)))))))
             (
              cond (Ops.eq B (Prod.fst (List.getD p0 (Int.toNat p1) (Ty.dflt ty33))) (3))
               (
                cond (Prod.fst (Prod.snd (List.getD p0 (Int.toNat p1) (Ty.dflt ty33))) == Array.toList (ByteArray.data { data := List.toArray (70 :: mt UInt8) }))
                 (
                  again (.l1011 11 (Prod.fst (Prod.snd y0)) (Prod.fst (Prod.snd (Prod.snd y0))) (Prod.fst (Prod.snd (Prod.snd (Prod.snd y0)))) (Prod.fst (Prod.snd (Prod.snd (Prod.snd (Prod.snd y0))))) (Prod.fst (List.getD p0 (Int.toNat p1) (Ty.dflt ty33))) (Prod.fst (Prod.snd (List.getD p0 (Int.toNat p1) (Ty.dflt ty33)))) (Prod.fst (Prod.snd (Prod.snd (List.getD p0 (Int.toNat p1) (Ty.dflt ty33))))) (Prod.snd (Prod.snd (Prod.snd (List.getD p0 (Int.toNat p1) (Ty.dflt ty33))))) (Prod.snd (Prod.snd (Prod.snd (Prod.snd (Prod.snd y0)))))))
                 (
                  cond (Ops.eq B (Prod.fst (List.getD p0 (Int.toNat p1) (Ty.dflt ty33))) (3))
                   (
                    cond (Prod.fst (Prod.snd (List.getD p0 (Int.toNat p1) (Ty.dflt ty33))) == Array.toList (ByteArray.data { data := List.toArray (71 :: mt UInt8) }))
                     (
                      again (.l1011 12 (Prod.fst (Prod.snd y0)) (Prod.fst (Prod.snd (Prod.snd y0))) (Prod.fst (Prod.snd (Prod.snd (Prod.snd y0)))) (Prod.fst (Prod.snd (Prod.snd (Prod.snd (Prod.snd y0))))) (Prod.fst (List.getD p0 (Int.toNat p1) (Ty.dflt ty33))) (Prod.fst (Prod.snd (List.getD p0 (Int.toNat p1) (Ty.dflt ty33)))) (Prod.fst (Prod.snd (Prod.snd (List.getD p0 (Int.toNat p1) (Ty.dflt ty33))))) (Prod.snd (Prod.snd (Prod.snd (List.getD p0 (Int.toNat p1) (Ty.dflt ty33))))) (Prod.snd (Prod.snd (Prod.snd (Prod.snd (Prod.snd y0)))))))
                     (
                      again (.l1011 0 (Prod.fst (Prod.snd y0)) (Prod.fst (Prod.snd (Prod.snd y0))) (Prod.fst (Prod.snd (Prod.snd (Prod.snd y0)))) (Prod.fst (Prod.snd (Prod.snd (Prod.snd (Prod.snd y0))))) (Prod.fst (List.getD p0 (Int.toNat p1) (Ty.dflt ty33))) (Prod.fst (Prod.snd (List.getD p0 (Int.toNat p1) (Ty.dflt ty33)))) (Prod.fst (Prod.snd (Prod.snd (List.getD p0 (Int.toNat p1) (Ty.dflt ty33))))) (Prod.snd (Prod.snd (Prod.snd (List.getD p0 (Int.toNat p1) (Ty.dflt ty33))))) (Prod.snd (Prod.snd (Prod.snd (Prod.snd (Prod.snd y0))))))))
                   (
                    again (.l1011 0 (Prod.fst (Prod.snd y0)) (Prod.fst (Prod.snd (Prod.snd y0))) (Prod.fst (Prod.snd (Prod.snd (Prod.snd y0)))) (Prod.fst (Prod.snd (Prod.snd (Prod.snd (Prod.snd y0))))) (Prod.fst (List.getD p0 (Int.toNat p1) (Ty.dflt ty33))) (Prod.fst (Prod.snd (List.getD p0 (Int.toNat p1) (Ty.dflt ty33)))) (Prod.fst (Prod.snd (Prod.snd (List.getD p0 (Int.toNat p1) (Ty.dflt ty33))))) (Prod.snd (Prod.snd (Prod.snd (List.getD p0 (Int.toNat p1) (Ty.dflt ty33))))) (Prod.snd (Prod.snd (Prod.snd (Prod.snd (Prod.snd y0)))))))))
               (
                cond (Ops.eq B (Prod.fst (List.getD p0 (Int.toNat p1) (Ty.dflt ty33))) (3))
                 (
                  cond (Prod.fst (Prod.snd (List.getD p0 (Int.toNat p1) (Ty.dflt ty33))) == Array.toList (ByteArray.data { data := List.toArray (71 :: mt UInt8) }))
                   (
                    again (.l1011 12 (Prod.fst (Prod.snd y0)) (Prod.fst (Prod.snd (Prod.snd y0))) (Prod.fst (Prod.snd (Prod.snd (Prod.snd y0)))) (Prod.fst (Prod.snd (Prod.snd (Prod.snd (Prod.snd y0))))) (Prod.fst (List.getD p0 (Int.toNat p1) (Ty.dflt ty33))) (Prod.fst (Prod.snd (List.getD p0 (Int.toNat p1) (Ty.dflt ty33)))) (Prod.fst (Prod.snd (Prod.snd (List.getD p0 (Int.toNat p1) (Ty.dflt ty33))))) (Prod.snd (Prod.snd (Prod.snd (List.getD p0 (Int.toNat p1) (Ty.dflt ty33))))) (Prod.snd (Prod.snd (Prod.snd (Prod.snd (Prod.snd y0)))))))
                   (
                    again (.l1011 0 (Prod.fst (Prod.snd y0)) (Prod.fst (Prod.snd (Prod.snd y0))) (Prod.fst (Prod.snd (Prod.snd (Prod.snd y0)))) (Prod.fst (Prod.snd (Prod.snd (Prod.snd (Prod.snd y0))))) (Prod.fst (List.getD p0 (Int.toNat p1) (Ty.dflt ty33))) (Prod.fst (Prod.snd (List.getD p0 (Int.toNat p1) (Ty.dflt ty33)))) (Prod.fst (Prod.snd (Prod.snd (List.getD p0 (Int.toNat p1) (Ty.dflt ty33))))) (Prod.snd (Prod.snd (Prod.snd (List.getD p0 (Int.toNat p1) (Ty.dflt ty33))))) (Prod.snd (Prod.snd (Prod.snd (Prod.snd (Prod.snd y0))))))))
                 (
                  again (.l1011 0 (Prod.fst (Prod.snd y0)) (Prod.fst (Prod.snd (Prod.snd y0))) (Prod.fst (Prod.snd (Prod.snd (Prod.snd y0)))) (Prod.fst (Prod.snd (Prod.snd (Prod.snd (Prod.snd y0))))) (Prod.fst (List.getD p0 (Int.toNat p1) (Ty.dflt ty33))) (Prod.fst (Prod.snd (List.getD p0 (Int.toNat p1) (Ty.dflt ty33)))) (Prod.fst (Prod.snd (Prod.snd (List.getD p0 (Int.toNat p1) (Ty.dflt ty33))))) (Prod.snd (Prod.snd (Prod.snd (List.getD p0 (Int.toNat p1) (Ty.dflt ty33))))) (Prod.snd (Prod.snd (Prod.snd (Prod.snd (Prod.snd y0))))))))))
           (
            cond (Ops.eq B (Prod.fst (List.getD p0 (Int.toNat p1) (Ty.dflt ty33))) (3))
             (
              cond (Prod.fst (Prod.snd (List.getD p0 (Int.toNat p1) (Ty.dflt ty33))) == Array.toList (ByteArray.data { data := List.toArray (70 :: mt UInt8) }))
               (
                again (.l1011 11 (Prod.fst (Prod.snd y0)) (Prod.fst (Prod.snd (Prod.snd y0))) (Prod.fst (Prod.snd (Prod.snd (Prod.snd y0)))) (Prod.fst (Prod.snd (Prod.snd (Prod.snd (Prod.snd y0))))) (Prod.fst (List.getD p0 (Int.toNat p1) (Ty.dflt ty33))) (Prod.fst (Prod.snd (List.getD p0 (Int.toNat p1) (Ty.dflt ty33)))) (Prod.fst (Prod.snd (Prod.snd (List.getD p0 (Int.toNat p1) (Ty.dflt ty33))))) (Prod.snd (Prod.snd (Prod.snd (List.getD p0 (Int.toNat p1) (Ty.dflt ty33))))) (Prod.snd (Prod.snd (Prod.snd (Prod.snd (Prod.snd y0)))))))
               (
                cond (Ops.eq B (Prod.fst (List.getD p0 (Int.toNat p1) (Ty.dflt ty33))) (3))
                 (
                  cond (Prod.fst (Prod.snd (List.getD p0 (Int.toNat p1) (Ty.dflt ty33))) == Array.toList (ByteArray.data { data := List.toArray (71 :: mt UInt8) }))
                   (
                    again (.l1011 12 (Prod.fst (Prod.snd y0)) (Prod.fst (Prod.snd (Prod.snd y0))) (Prod.fst (Prod.snd (Prod.snd (Prod.snd y0)))) (Prod.fst (Prod.snd (Prod.snd (Prod.snd (Prod.snd y0))))) (Prod.fst (List.getD p0 (Int.toNat p1) (Ty.dflt ty33))) (Prod.fst (Prod.snd (List.getD p0 (Int.toNat p1) (Ty.dflt ty33)))) (Prod.fst (Prod.snd (Prod.snd (List.getD p0 (Int.toNat p1) (Ty.dflt ty33))))) (Prod.snd (Prod.snd (Prod.snd (List.getD p0 (Int.toNat p1) (Ty.dflt ty33))))) (Prod.snd (Prod.snd (Prod.snd (Prod.snd (Prod.snd y0)))))))
                   (
                    again (.l1011 0 (Prod.fst (Prod.snd y0)) (Prod.fst (Prod.snd (Prod.snd y0))) (Prod.fst (Prod.snd (Prod.snd (Prod.snd y0)))) (Prod.fst (Prod.snd (Prod.snd (Prod.snd (Prod.snd y0))))) (Prod.fst (List.getD p0 (Int.toNat p1) (Ty.dflt ty33))) (Prod.fst (Prod.snd (List.getD p0 (Int.toNat p1) (Ty.dflt ty33)))) (Prod.fst (Prod.snd (Prod.snd (List.getD p0 (Int.toNat p1) (Ty.dflt ty33))))) (Prod.snd (Prod.snd (Prod.snd (List.getD p0 (Int.toNat p1) (Ty.dflt ty33))))) (Prod.snd (Prod.snd (Prod.snd (Prod.snd (Prod.snd y0))))))))
                 (
                  again (.l1011 0 (Prod.fst (Prod.snd y0)) (Prod.fst (Prod.snd (Prod.snd y0))) (Prod.fst (Prod.snd (Prod.snd (Prod.snd y0)))) (Prod.fst (Prod.snd (Prod.snd (Prod.snd (Prod.snd y0))))) (Prod.fst (List.getD p0 (Int.toNat p1) (Ty.dflt ty33))) (Prod.fst (Prod.snd (List.getD p0 (Int.toNat p1) (Ty.dflt ty33)))) (Prod.fst (Prod.snd (Prod.snd (List.getD p0 (Int.toNat p1) (Ty.dflt ty33))))) (Prod.snd (Prod.snd (Prod.snd (List.getD p0 (Int.toNat p1) (Ty.dflt ty33))))) (Prod.snd (Prod.snd (Prod.snd (Prod.snd (Prod.snd y0)))))))))
             (
              cond (Ops.eq B (Prod.fst (List.getD p0 (Int.toNat p1) (Ty.dflt ty33))) (3))
               (
                cond (Prod.fst (Prod.snd (List.getD p0 (Int.toNat p1) (Ty.dflt ty33))) == Array.toList (ByteArray.data { data := List.toArray (71 :: mt UInt8) }))
                 (
                  again (.l1011 12 (Prod.fst (Prod.snd y0)) (Prod.fst (Prod.snd (Prod.snd y0))) (Prod.fst (Prod.snd (Prod.snd (Prod.snd y0)))) (Prod.fst (Prod.snd (Prod.snd (Prod.snd (Prod.snd y0))))) (Prod.fst (List.getD p0 (Int.toNat p1) (Ty.dflt ty33))) (Prod.fst (Prod.snd (List.getD p0 (Int.toNat p1) (Ty.dflt ty33)))) (Prod.fst (Prod.snd (Prod.snd (List.getD p0 (Int.toNat p1) (Ty.dflt ty33))))) (Prod.snd (Prod.snd (Prod.snd (List.getD p0 (Int.toNat p1) (Ty.dflt ty33))))) (Prod.snd (Prod.snd (Prod.snd (Prod.snd (Prod.snd y0)))))))
                 (
                  again (.l1011 0 (Prod.fst (Prod.snd y0)) (Prod.fst (Prod.snd (Prod.snd y0))) (Prod.fst (Prod.snd (Prod.snd (Prod.snd y0)))) (Prod.fst (Prod.snd (Prod.snd (Prod.snd (Prod.snd y0))))) (Prod.fst (List.getD p0 (Int.toNat p1) (Ty.dflt ty33))) (Prod.fst (Prod.snd (List.getD p0 (Int.toNat p1) (Ty.dflt ty33)))) (Prod.fst (Prod.snd (Prod.snd (List.getD p0 (Int.toNat p1) (Ty.dflt ty33))))) (Prod.snd (Prod.snd (Prod.snd (List.getD p0 (Int.toNat p1) (Ty.dflt ty33))))) (Prod.snd (Prod.snd (Prod.snd (Prod.snd (Prod.snd y0))))))))
               (
                again (.l1011 0 (Prod.fst (Prod.snd y0)) (Prod.fst (Prod.snd (Prod.snd y0))) (Prod.fst (Prod.snd (Prod.snd (Prod.snd y0)))) (Prod.fst (Prod.snd (Prod.snd (Prod.snd (Prod.snd y0))))) (Prod.fst (List.getD p0 (Int.toNat p1) (Ty.dflt ty33))) (Prod.fst (Prod.snd (List.getD p0 (Int.toNat p1) (Ty.dflt ty33)))) (Prod.fst (Prod.snd (Prod.snd (List.getD p0 (Int.toNat p1) (Ty.dflt ty33))))) (Prod.snd (Prod.snd (Prod.snd (List.getD p0 (Int.toNat p1) (Ty.dflt ty33))))) (Prod.snd (Prod.snd (Prod.snd (Prod.snd (Prod.snd y0)))))))))))
       (
        none))
  | some (.l1011 v1011_0 v1011_1 v1011_2 v1011_3 v1011_4 v1011_5 v1011_6 v1011_7 v1011_8 v1011_9) =>
    cond (!Ops.eq B v1011_0 (0))
     (
      ob (c79 v1011_1 (IntKind.wrap IntKind.i64 (v1011_2 + 1)) v1011_3 v1011_4 v1011_9) fun y0 =>
      cond (Ops.lim B (List.length (Prod.snd (Prod.snd (Prod.snd (Prod.snd y0)))) + List.length ((v1011_0, mt (Ty.den (Ty.pair (Ty.int IntKind.i64) (Ty.pair (Ty.int IntKind.i64) (Ty.pair Ty.str Ty.str))))) :: mt (Ty.den (Ty.pair (Ty.int IntKind.i64) (Ty.list (98) (Ty.pair (Ty.int IntKind.i64) (Ty.pair (Ty.int IntKind.i64) (Ty.pair Ty.str Ty.str)))))))) (32))
       (
        k ((Prod.fst y0, Prod.fst (Prod.snd y0), Prod.fst (Prod.snd (Prod.snd y0)), Prod.fst (Prod.snd (Prod.snd (Prod.snd y0))), Prod.snd (Prod.snd (Prod.snd (Prod.snd y0))) ++ (v1011_0, mt (Ty.den (Ty.pair (Ty.int IntKind.i64) (Ty.pair (Ty.int IntKind.i64) (Ty.pair Ty.str Ty.str))))) :: mt (Ty.den (Ty.pair (Ty.int IntKind.i64) (Ty.list (98) (Ty.pair (Ty.int IntKind.i64) (Ty.pair (Ty.int IntKind.i64) (Ty.pair Ty.str Ty.str)))))))))
       (
        none))
     (
      cond (Ops.eq B v1011_5 (2))
       (
        cond (v1011_6 == Array.toList (ByteArray.data { data := List.toArray (116 :: 114 :: 117 :: 101 :: mt UInt8) }))
         (
          cond (Ops.lim B (List.length v1011_9 + List.length ((1, mt (Ty.den (Ty.pair (Ty.int IntKind.i64) (Ty.pair (Ty.int IntKind.i64) (Ty.pair Ty.str Ty.str))))) :: mt (Ty.den (Ty.pair (Ty.int IntKind.i64) (Ty.list (98) (Ty.pair (Ty.int IntKind.i64) (Ty.pair (Ty.int IntKind.i64) (Ty.pair Ty.str Ty.str)))))))) (32))
           (
            k ((v1011_1, IntKind.wrap IntKind.i64 (v1011_2 + 1), v1011_3, v1011_4, v1011_9 ++ (1, mt (Ty.den (Ty.pair (Ty.int IntKind.i64) (Ty.pair (Ty.int IntKind.i64) (Ty.pair Ty.str Ty.str))))) :: mt (Ty.den (Ty.pair (Ty.int IntKind.i64) (Ty.list (98) (Ty.pair (Ty.int IntKind.i64) (Ty.pair (Ty.int IntKind.i64) (Ty.pair Ty.str Ty.str)))))))))
           (
            none))
         (
          cond (Ops.eq B v1011_5 (2))
           (
            cond (v1011_6 == Array.toList (ByteArray.data { data := List.toArray (102 :: 97 :: 108 :: 115 :: 101 :: mt UInt8) }))
             (
              again (.l1021 v1011_1 (IntKind.wrap IntKind.i64 (v1011_2 + 1)) v1011_3 v1011_4 v1011_9))
             (
              ob (c88 (Array.toList (ByteArray.data { data := List.toArray (40 :: mt UInt8) })) v1011_1 v1011_2 v1011_3 v1011_4 v1011_9) fun y0 =>
              cond (Prod.fst y0)
               (
                again (.l1024 (Prod.fst (Prod.snd y0)) (IntKind.wrap IntKind.i64 (Prod.fst (Prod.snd (Prod.snd y0)) + 1)) (Prod.fst (Prod.snd (Prod.snd (Prod.snd y0)))) (Prod.fst (Prod.snd (Prod.snd (Prod.snd (Prod.snd y0))))) (Prod.snd (Prod.snd (Prod.snd (Prod.snd (Prod.snd y0)))))))
               (
                ob (c88 (Array.toList (ByteArray.data { data := List.toArray (91 :: mt UInt8) })) (Prod.fst (Prod.snd y0)) (Prod.fst (Prod.snd (Prod.snd y0))) (Prod.fst (Prod.snd (Prod.snd (Prod.snd y0)))) (Prod.fst (Prod.snd (Prod.snd (Prod.snd (Prod.snd y0))))) (Prod.snd (Prod.snd (Prod.snd (Prod.snd (Prod.snd y0)))))) fun y1 =>
                cond (Prod.fst y1)
                 (
                  again (.l1028 (Prod.fst (Prod.snd (Prod.snd y1))) (Prod.fst (Prod.snd y1)) (Prod.fst (Prod.snd (Prod.snd y1))) (Prod.fst (Prod.snd (Prod.snd (Prod.snd y1)))) (Prod.fst (Prod.snd (Prod.snd (Prod.snd (Prod.snd y1))))) (Prod.snd (Prod.snd (Prod.snd (Prod.snd (Prod.snd y1)))))))
                 (
                  ob (c63 (2) (Prod.fst (Prod.snd (Prod.snd y1))) (Prod.fst (Prod.snd y1)) (Prod.fst (Prod.snd (Prod.snd y1))) (Prod.fst (Prod.snd (Prod.snd (Prod.snd y1)))) (Prod.fst (Prod.snd (Prod.snd (Prod.snd (Prod.snd y1))))) (Prod.snd (Prod.snd (Prod.snd (Prod.snd (Prod.snd y1)))))) fun y2 =>
                  k ((Prod.fst y2, Prod.fst (Prod.snd y2), Prod.fst (Prod.snd (Prod.snd y2)), Prod.fst (Prod.snd (Prod.snd (Prod.snd y2))), Prod.snd (Prod.snd (Prod.snd (Prod.snd y2)))))))))
           (
            ob (c88 (Array.toList (ByteArray.data { data := List.toArray (40 :: mt UInt8) })) v1011_1 v1011_2 v1011_3 v1011_4 v1011_9) fun y0 =>
            cond (Prod.fst y0)
             (
              again (.l1024 (Prod.fst (Prod.snd y0)) (IntKind.wrap IntKind.i64 (Prod.fst (Prod.snd (Prod.snd y0)) + 1)) (Prod.fst (Prod.snd (Prod.snd (Prod.snd y0)))) (Prod.fst (Prod.snd (Prod.snd (Prod.snd (Prod.snd y0))))) (Prod.snd (Prod.snd (Prod.snd (Prod.snd (Prod.snd y0)))))))
             (
              ob (c88 (Array.toList (ByteArray.data { data := List.toArray (91 :: mt UInt8) })) (Prod.fst (Prod.snd y0)) (Prod.fst (Prod.snd (Prod.snd y0))) (Prod.fst (Prod.snd (Prod.snd (Prod.snd y0)))) (Prod.fst (Prod.snd (Prod.snd (Prod.snd (Prod.snd y0))))) (Prod.snd (Prod.snd (Prod.snd (Prod.snd (Prod.snd y0)))))) fun y1 =>
              cond (Prod.fst y1)
               (
                again (.l1028 (Prod.fst (Prod.snd (Prod.snd y1))) (Prod.fst (Prod.snd y1)) (Prod.fst (Prod.snd (Prod.snd y1))) (Prod.fst (Prod.snd (Prod.snd (Prod.snd y1)))) (Prod.fst (Prod.snd (Prod.snd (Prod.snd (Prod.snd y1))))) (Prod.snd (Prod.snd (Prod.snd (Prod.snd (Prod.snd y1)))))))
               (
                ob (c63 (2) (Prod.fst (Prod.snd (Prod.snd y1))) (Prod.fst (Prod.snd y1)) (Prod.fst (Prod.snd (Prod.snd y1))) (Prod.fst (Prod.snd (Prod.snd (Prod.snd y1)))) (Prod.fst (Prod.snd (Prod.snd (Prod.snd (Prod.snd y1))))) (Prod.snd (Prod.snd (Prod.snd (Prod.snd (Prod.snd y1)))))) fun y2 =>
                k ((Prod.fst y2, Prod.fst (Prod.snd y2), Prod.fst (Prod.snd (Prod.snd y2)), Prod.fst (Prod.snd (Prod.snd (Prod.snd y2))), Prod.snd (Prod.snd (Prod.snd (Prod.snd y2))))))))))
       (
        cond (Ops.eq B v1011_5 (2))
         (
          cond (v1011_6 == Array.toList (ByteArray.data { data := List.toArray (102 :: 97 :: 108 :: 115 :: 101 :: mt UInt8) }))
           (
            again (.l1021 v1011_1 (IntKind.wrap IntKind.i64 (v1011_2 + 1)) v1011_3 v1011_4 v1011_9))
           (
            ob (c88 (Array.toList (ByteArray.data { data := List.toArray (40 :: mt UInt8) })) v1011_1 v1011_2 v1011_3 v1011_4 v1011_9) fun y0 =>
            cond (Prod.fst y0)
             (
              again (.l1024 (Prod.fst (Prod.snd y0)) (IntKind.wrap IntKind.i64 (Prod.fst (Prod.snd (Prod.snd y0)) + 1)) (Prod.fst (Prod.snd (Prod.snd (Prod.snd y0)))) (Prod.fst (Prod.snd (Prod.snd (Prod.snd (Prod.snd y0))))) (Prod.snd (Prod.snd (Prod.snd (Prod.snd (Prod.snd y0)))))))
             (
              ob (c88 (Array.toList (ByteArray.data { data := List.toArray (91 :: mt UInt8) })) (Prod.fst (Prod.snd y0)) (Prod.fst (Prod.snd (Prod.snd y0))) (Prod.fst (Prod.snd (Prod.snd (Prod.snd y0)))) (Prod.fst (Prod.snd (Prod.snd (Prod.snd (Prod.snd y0))))) (Prod.snd (Prod.snd (Prod.snd (Prod.snd (Prod.snd y0)))))) fun y1 =>
              cond (Prod.fst y1)
               (
                again (.l1028 (Prod.fst (Prod.snd (Prod.snd y1))) (Prod.fst (Prod.snd y1)) (Prod.fst (Prod.snd (Prod.snd y1))) (Prod.fst (Prod.snd (Prod.snd (Prod.snd y1)))) (Prod.fst (Prod.snd (Prod.snd (Prod.snd (Prod.snd y1))))) (Prod.snd (Prod.snd (Prod.snd (Prod.snd (Prod.snd y1)))))))
               (
                ob (c63 (2) (Prod.fst (Prod.snd (Prod.snd y1))) (Prod.fst (Prod.snd y1)) (Prod.fst (Prod.snd (Prod.snd y1))) (Prod.fst (Prod.snd (Prod.snd (Prod.snd y1)))) (Prod.fst (Prod.snd (Prod.snd (Prod.snd (Prod.snd y1))))) (Prod.snd (Prod.snd (Prod.snd (Prod.snd (Prod.snd y1)))))) fun y2 =>
                k ((Prod.fst y2, Prod.fst (Prod.snd y2), Prod.fst (Prod.snd (Prod.snd y2)), Prod.fst (Prod.snd (Prod.snd (Prod.snd y2))), Prod.snd (Prod.snd (Prod.snd (Prod.snd y2)))))))))
         (
          ob (c88 (Array.toList (ByteArray.data { data := List.toArray (40 :: mt UInt8) })) v1011_1 v1011_2 v1011_3 v1011_4 v1011_9) fun y0 =>
          cond (Prod.fst y0)
           (
            again (.l1024 (Prod.fst (Prod.snd y0)) (IntKind.wrap IntKind.i64 (Prod.fst (Prod.snd (Prod.snd y0)) + 1)) (Prod.fst (Prod.snd (Prod.snd (Prod.snd y0)))) (Prod.fst (Prod.snd (Prod.snd (Prod.snd (Prod.snd y0))))) (Prod.snd (Prod.snd (Prod.snd (Prod.snd (Prod.snd y0)))))))
           (
            ob (c88 (Array.toList (ByteArray.data { data := List.toArray (91 :: mt UInt8) })) (Prod.fst (Prod.snd y0)) (Prod.fst (Prod.snd (Prod.snd y0))) (Prod.fst (Prod.snd (Prod.snd (Prod.snd y0)))) (Prod.fst (Prod.snd (Prod.snd (Prod.snd (Prod.snd y0))))) (Prod.snd (Prod.snd (Prod.snd (Prod.snd (Prod.snd y0)))))) fun y1 =>
            cond (Prod.fst y1)
             (
              again (.l1028 (Prod.fst (Prod.snd (Prod.snd y1))) (Prod.fst (Prod.snd y1)) (Prod.fst (Prod.snd (Prod.snd y1))) (Prod.fst (Prod.snd (Prod.snd (Prod.snd y1)))) (Prod.fst (Prod.snd (Prod.snd (Prod.snd (Prod.snd y1))))) (Prod.snd (Prod.snd (Prod.snd (Prod.snd (Prod.snd y1)))))))
             (
              ob (c63 (2) (Prod.fst (Prod.snd (Prod.snd y1))) (Prod.fst (Prod.snd y1)) (Prod.fst (Prod.snd (Prod.snd y1))) (Prod.fst (Prod.snd (Prod.snd (Prod.snd y1)))) (Prod.fst (Prod.snd (Prod.snd (Prod.snd (Prod.snd y1))))) (Prod.snd (Prod.snd (Prod.snd (Prod.snd (Prod.snd y1)))))) fun y2 =>
              k ((Prod.fst y2, Prod.fst (Prod.snd y2), Prod.fst (Prod.snd (Prod.snd y2)), Prod.fst (Prod.snd (Prod.snd (Prod.snd y2))), Prod.snd (Prod.snd (Prod.snd (Prod.snd y2))))))))))
  | some (.l1021 v1021_0 v1021_1 v1021_2 v1021_3 v1021_4) =>
    cond (Ops.lim B (List.length v1021_4 + List.length ((2, mt (Ty.den (Ty.pair (Ty.int IntKind.i64) (Ty.pair (Ty.int IntKind.i64) (Ty.pair Ty.str Ty.str))))) :: mt (Ty.den (Ty.pair (Ty.int IntKind.i64) (Ty.list (98) (Ty.pair (Ty.int IntKind.i64) (Ty.pair (Ty.int IntKind.i64) (Ty.pair Ty.str Ty.str)))))))) (32))
     (
      k ((v1021_0, v1021_1, v1021_2, v1021_3, v1021_4 ++ (2, mt (Ty.den (Ty.pair (Ty.int IntKind.i64) (Ty.pair (Ty.int IntKind.i64) (Ty.pair Ty.str Ty.str))))) :: mt (Ty.den (Ty.pair (Ty.int IntKind.i64) (Ty.list (98) (Ty.pair (Ty.int IntKind.i64) (Ty.pair (Ty.int IntKind.i64) (Ty.pair Ty.str Ty.str)))))))))
     (
      none)
  | some (.l1024 v1024_0 v1024_1 v1024_2 v1024_3 v1024_4) =>
    ob (c62 (1) v1024_0 v1024_1 v1024_2 v1024_3 v1024_4) fun y0 =>
    ob (c89 (Array.toList (ByteArray.data { data := List.toArray (41 :: mt UInt8) })) (Prod.fst y0) (Prod.fst (Prod.snd y0)) (Prod.fst (Prod.snd (Prod.snd y0))) (Prod.fst (Prod.snd (Prod.snd (Prod.snd y0)))) (Prod.snd (Prod.snd (Prod.snd (Prod.snd y0))))) fun y1 =>
    k ((Prod.fst y1, Prod.fst (Prod.snd y1), Prod.fst (Prod.snd (Prod.snd y1)), Prod.fst (Prod.snd (Prod.snd (Prod.snd y1))), Prod.snd (Prod.snd (Prod.snd (Prod.snd y1)))))
  | some (.l1028 v1028_0 v1028_1 v1028_2 v1028_3 v1028_4 v1028_5) =>
    ob (c90 v1028_1 (IntKind.wrap IntKind.i64 (v1028_2 + 1))) fun y0 =>
    cond (Ops.eq B (Prod.fst (Prod.snd y0)) (13))
     (
      ob (c63 (Prod.fst (Prod.snd y0)) v1028_0 v1028_1 v1028_2 v1028_3 v1028_4 v1028_5) fun y1 =>
      k ((Prod.fst y1, Prod.fst (Prod.snd y1), Prod.fst (Prod.snd (Prod.snd y1)), Prod.fst (Prod.snd (Prod.snd (Prod.snd y1))), Prod.snd (Prod.snd (Prod.snd (Prod.snd y1))))))
     (
      cond (Ops.eq B (Prod.fst (Prod.snd y0)) (2))
       (
        ob (c63 (Prod.fst (Prod.snd y0)) (Prod.fst y0) v1028_1 v1028_2 v1028_3 v1028_4 v1028_5) fun y1 =>
        k ((Prod.fst y1, Prod.fst (Prod.snd y1), Prod.fst (Prod.snd (Prod.snd y1)), Prod.fst (Prod.snd (Prod.snd (Prod.snd y1))), Prod.snd (Prod.snd (Prod.snd (Prod.snd y1))))))
       (
        cond (Ops.lim B (List.length v1028_5 + List.length ((3, Prod.snd (Prod.snd y0)) :: mt (Ty.den (Ty.pair (Ty.int IntKind.i64) (Ty.list (98) (Ty.pair (Ty.int IntKind.i64) (Ty.pair (Ty.int IntKind.i64) (Ty.pair Ty.str Ty.str)))))))) (32))
         (
          ob (c89 (Array.toList (ByteArray.data { data := List.toArray (93 :: mt UInt8) })) v1028_1 (Prod.fst y0) v1028_3 v1028_4 (v1028_5 ++ (3, Prod.snd (Prod.snd y0)) :: mt (Ty.den (Ty.pair (Ty.int IntKind.i64) (Ty.list (98) (Ty.pair (Ty.int IntKind.i64) (Ty.pair (Ty.int IntKind.i64) (Ty.pair Ty.str Ty.str)))))))) fun y1 =>
          k ((Prod.fst y1, Prod.fst (Prod.snd y1), Prod.fst (Prod.snd (Prod.snd y1)), Prod.fst (Prod.snd (Prod.snd (Prod.snd y1))), Prod.snd (Prod.snd (Prod.snd (Prod.snd y1))))))
         (
          none)))
def E79 (p0 : List ty33.den) (p1 : Int) (p2 : Int) (p3 : Int) (p4 : List ty66.den) : S79 → List AV × Objs
  | .l1011 v1011_0 v1011_1 v1011_2 v1011_3 v1011_4 v1011_5 v1011_6 v1011_7 v1011_8 v1011_9 => (mk 198 [(0, .c (.ptr 0 0)), (2, .c (.ptr 2 0)), (3, .c (.int .i64 v1011_0))], [(0, .box 86 [.list 33 ty33 v1011_1, .int .i64 v1011_2, .own 1002, .int .i64 v1011_3, .int .i64 v1011_4]), (2, .box 33 [.int .i64 v1011_5, .str v1011_6, .int .i64 v1011_7, .int .i64 v1011_8]), (1002, .row 66 ty66 v1011_9)])
  | .l1021 v1021_0 v1021_1 v1021_2 v1021_3 v1021_4 => (mk 198 [(0, .c (.ptr 0 0))], [(0, .box 86 [.list 33 ty33 v1021_0, .int .i64 v1021_1, .own 1002, .int .i64 v1021_2, .int .i64 v1021_3]), (1002, .row 66 ty66 v1021_4)])
  | .l1024 v1024_0 v1024_1 v1024_2 v1024_3 v1024_4 => (mk 198 [(0, .c (.ptr 0 0))], [(0, .box 86 [.list 33 ty33 v1024_0, .int .i64 v1024_1, .own 1002, .int .i64 v1024_2, .int .i64 v1024_3]), (1002, .row 66 ty66 v1024_4)])
  | .l1028 v1028_0 v1028_1 v1028_2 v1028_3 v1028_4 v1028_5 => (mk 198 [(0, .c (.ptr 0 0)), (4, .c (.int .i64 v1028_0))], [(0, .box 86 [.list 33 ty33 v1028_1, .int .i64 v1028_2, .own 1002, .int .i64 v1028_3, .int .i64 v1028_4]), (1002, .row 66 ty66 v1028_5)])
def I79 : S79 → Nat
  | .l1011 _ _ _ _ _ _ _ _ _ _ => 1011
  | .l1021 _ _ _ _ _ => 1021
  | .l1024 _ _ _ _ _ => 1024
  | .l1028 _ _ _ _ _ _ => 1028
theorem eq79 {R : Type} (B : Ops) (c88 : List UInt8 → List ty33.den → Int → Int → Int → List ty66.den → Option (Bool × (List ty33.den) × Int × Int × Int × (List ty66.den))) (c79 : List ty33.den → Int → Int → Int → List ty66.den → Option ((List ty33.den) × Int × Int × Int × (List ty66.den))) (c62 : Int → List ty33.den → Int → Int → Int → List ty66.den → Option ((List ty33.den) × Int × Int × Int × (List ty66.den))) (c89 : List UInt8 → List ty33.den → Int → Int → Int → List ty66.den → Option ((List ty33.den) × Int × Int × Int × (List ty66.den))) (c90 : List ty33.den → Int → Option (Int × Int × (List ty98.den))) (c63 : Int → Int → List ty33.den → Int → Int → Int → List ty66.den → Option ((List ty33.den) × Int × Int × Int × (List ty66.den))) (p0 : List ty33.den) (p1 : Int) (p2 : Int) (p3 : Int) (p4 : List ty66.den) (k : AV → Objs → Option R) (n : Nat) : afun tau B gl0 X79 (ent 88 (e88 c88) (ent 79 (e79 c79) (ent 62 (e62 c62) (ent 89 (e89 c89) (ent 90 (e90 c90) (ent 63 (e63 c63) (gnil))))))) ow Try.f79 [.c (.ptr 0 0)] [(0, .box 86 [.list 33 ty33 p0, .int .i64 p1, .own 1002, .int .i64 p2, .int .i64 p3]), (1002, .row 66 ty66 p4)] k n = T79 B c88 c79 c62 c89 c90 c63 p0 p1 p2 p3 p4 (fun s => aloop tau B gl0 X79 (ent 88 (e88 c88) (ent 79 (e79 c79) (ent 62 (e62 c62) (ent 89 (e89 c89) (ent 90 (e90 c90) (ent 63 (e63 c63) (gnil))))))) ow [0] Try.f79 k (I79 s) (E79 p0 p1 p2 p3 p4 s) n) (fun y => k (.tup []) [(0, .box 86 [.list 33 ty33 y.1, .int .i64 y.2.1, .own 1002, .int .i64 y.2.2.1, .int .i64 y.2.2.2.1]), (1002, .row 66 ty66 y.2.2.2.2)]) none := by kernel_rfl
theorem el79 {R : Type} (B : Ops) (c88 : List UInt8 → List ty33.den → Int → Int → Int → List ty66.den → Option (Bool × (List ty33.den) × Int × Int × Int × (List ty66.den))) (c79 : List ty33.den → Int → Int → Int → List ty66.den → Option ((List ty33.den) × Int × Int × Int × (List ty66.den))) (c62 : Int → List ty33.den → Int → Int → Int → List ty66.den → Option ((List ty33.den) × Int × Int × Int × (List ty66.den))) (c89 : List UInt8 → List ty33.den → Int → Int → Int → List ty66.den → Option ((List ty33.den) × Int × Int × Int × (List ty66.den))) (c90 : List ty33.den → Int → Option (Int × Int × (List ty98.den))) (c63 : Int → Int → List ty33.den → Int → Int → Int → List ty66.den → Option ((List ty33.den) × Int × Int × Int × (List ty66.den))) (p0 : List ty33.den) (p1 : Int) (p2 : Int) (p3 : Int) (p4 : List ty66.den) (k : AV → Objs → Option R) (n : Nat) : ∀ s, aloop tau B gl0 X79 (ent 88 (e88 c88) (ent 79 (e79 c79) (ent 62 (e62 c62) (ent 89 (e89 c89) (ent 90 (e90 c90) (ent 63 (e63 c63) (gnil))))))) ow [0] Try.f79 k (I79 s) (E79 p0 p1 p2 p3 p4 s) (n + 1) = T79 B c88 c79 c62 c89 c90 c63 p0 p1 p2 p3 p4 (fun s => aloop tau B gl0 X79 (ent 88 (e88 c88) (ent 79 (e79 c79) (ent 62 (e62 c62) (ent 89 (e89 c89) (ent 90 (e90 c90) (ent 63 (e63 c63) (gnil))))))) ow [0] Try.f79 k (I79 s) (E79 p0 p1 p2 p3 p4 s) n) (fun y => k (.tup []) [(0, .box 86 [.list 33 ty33 y.1, .int .i64 y.2.1, .own 1002, .int .i64 y.2.2.1, .int .i64 y.2.2.2.1]), (1002, .row 66 ty66 y.2.2.2.2)]) (some s)
  | .l1011 v1011_0 v1011_1 v1011_2 v1011_3 v1011_4 v1011_5 v1011_6 v1011_7 v1011_8 v1011_9 => by kernel_rfl
  | .l1021 v1021_0 v1021_1 v1021_2 v1021_3 v1021_4 => by kernel_rfl
  | .l1024 v1024_0 v1024_1 v1024_2 v1024_3 v1024_4 => by kernel_rfl
  | .l1028 v1028_0 v1028_1 v1028_2 v1028_3 v1028_4 v1028_5 => by kernel_rfl
theorem nt79 {R R' : Type} (B : Ops) (c88 : List UInt8 → List ty33.den → Int → Int → Int → List ty66.den → Option (Bool × (List ty33.den) × Int × Int × Int × (List ty66.den))) (c79 : List ty33.den → Int → Int → Int → List ty66.den → Option ((List ty33.den) × Int × Int × Int × (List ty66.den))) (c62 : Int → List ty33.den → Int → Int → Int → List ty66.den → Option ((List ty33.den) × Int × Int × Int × (List ty66.den))) (c89 : List UInt8 → List ty33.den → Int → Int → Int → List ty66.den → Option ((List ty33.den) × Int × Int × Int × (List ty66.den))) (c90 : List ty33.den → Int → Option (Int × Int × (List ty98.den))) (c63 : Int → Int → List ty33.den → Int → Int → Int → List ty66.den → Option ((List ty33.den) × Int × Int × Int × (List ty66.den))) (p0 : List ty33.den) (p1 : Int) (p2 : Int) (p3 : Int) (p4 : List ty66.den) (again : S79 → Option R) (again' : S79 → Option R') (k0 : ((List ty33.den) × Int × Int × Int × (List ty66.den)) → Option R') (k : R' → Option R) (h : ∀ s, again s = ob (again' s) k) : ∀ s, T79 B c88 c79 c62 c89 c90 c63 p0 p1 p2 p3 p4 again (fun y => ob (k0 y) k) s = ob (T79 B c88 c79 c62 c89 c90 c63 p0 p1 p2 p3 p4 again' k0 s) k
  | none => by unfold T79; repeat' first | exact rfl | exact h _ | apply nat_cond | (apply nat_ob; intro)
  | some (.l1011 v1011_0 v1011_1 v1011_2 v1011_3 v1011_4 v1011_5 v1011_6 v1011_7 v1011_8 v1011_9) => by unfold T79; repeat' first | exact rfl | exact h _ | apply nat_cond | (apply nat_ob; intro)
  | some (.l1021 v1021_0 v1021_1 v1021_2 v1021_3 v1021_4) => by unfold T79; repeat' first | exact rfl | exact h _ | apply nat_cond | (apply nat_ob; intro)
  | some (.l1024 v1024_0 v1024_1 v1024_2 v1024_3 v1024_4) => by unfold T79; repeat' first | exact rfl | exact h _ | apply nat_cond | (apply nat_ob; intro)
  | some (.l1028 v1028_0 v1028_1 v1028_2 v1028_3 v1028_4 v1028_5) => by unfold T79; repeat' first | exact rfl | exact h _ | apply nat_cond | (apply nat_ob; intro)
def R79 (c88 : List UInt8 → List ty33.den → Int → Int → Int → List ty66.den → Option (Bool × (List ty33.den) × Int × Int × Int × (List ty66.den))) (c79 : List ty33.den → Int → Int → Int → List ty66.den → Option ((List ty33.den) × Int × Int × Int × (List ty66.den))) (c62 : Int → List ty33.den → Int → Int → Int → List ty66.den → Option ((List ty33.den) × Int × Int × Int × (List ty66.den))) (c89 : List UInt8 → List ty33.den → Int → Int → Int → List ty66.den → Option ((List ty33.den) × Int × Int × Int × (List ty66.den))) (c90 : List ty33.den → Int → Option (Int × Int × (List ty98.den))) (c63 : Int → Int → List ty33.den → Int → Int → Int → List ty66.den → Option ((List ty33.den) × Int × Int × Int × (List ty66.den))) (p0 : List ty33.den) (p1 : Int) (p2 : Int) (p3 : Int) (p4 : List ty66.den) : Nat → S79 → Option ((List ty33.den) × Int × Int × Int × (List ty66.den))
  | 0, _ => none
  | n + 1, s => T79 Ops.std c88 c79 c62 c89 c90 c63 p0 p1 p2 p3 p4 (R79 c88 c79 c62 c89 c90 c63 p0 p1 p2 p3 p4 n) some (some s)
theorem rr79 {R : Type} (c88 : List UInt8 → List ty33.den → Int → Int → Int → List ty66.den → Option (Bool × (List ty33.den) × Int × Int × Int × (List ty66.den))) (c79 : List ty33.den → Int → Int → Int → List ty66.den → Option ((List ty33.den) × Int × Int × Int × (List ty66.den))) (c62 : Int → List ty33.den → Int → Int → Int → List ty66.den → Option ((List ty33.den) × Int × Int × Int × (List ty66.den))) (c89 : List UInt8 → List ty33.den → Int → Int → Int → List ty66.den → Option ((List ty33.den) × Int × Int × Int × (List ty66.den))) (c90 : List ty33.den → Int → Option (Int × Int × (List ty98.den))) (c63 : Int → Int → List ty33.den → Int → Int → Int → List ty66.den → Option ((List ty33.den) × Int × Int × Int × (List ty66.den))) (p0 : List ty33.den) (p1 : Int) (p2 : Int) (p3 : Int) (p4 : List ty66.den) (k : AV → Objs → Option R) : ∀ (n : Nat) (s : S79), aloop tau Ops.std gl0 X79 (ent 88 (e88 c88) (ent 79 (e79 c79) (ent 62 (e62 c62) (ent 89 (e89 c89) (ent 90 (e90 c90) (ent 63 (e63 c63) (gnil))))))) ow [0] Try.f79 k (I79 s) (E79 p0 p1 p2 p3 p4 s) n = ob (R79 c88 c79 c62 c89 c90 c63 p0 p1 p2 p3 p4 n s) (fun y => k (.tup []) [(0, .box 86 [.list 33 ty33 y.1, .int .i64 y.2.1, .own 1002, .int .i64 y.2.2.1, .int .i64 y.2.2.2.1]), (1002, .row 66 ty66 y.2.2.2.2)])
  | 0, s => by cases s <;> rfl
  | n + 1, s => by rw [el79]; exact nt79 Ops.std c88 c79 c62 c89 c90 c63 p0 p1 p2 p3 p4 _ _ some (fun y => k (.tup []) [(0, .box 86 [.list 33 ty33 y.1, .int .i64 y.2.1, .own 1002, .int .i64 y.2.2.1, .int .i64 y.2.2.2.1]), (1002, .row 66 ty66 y.2.2.2.2)]) (rr79 c88 c79 c62 c89 c90 c63 p0 p1 p2 p3 p4 k n) (some s)
def F79 (c88 : List UInt8 → List ty33.den → Int → Int → Int → List ty66.den → Option (Bool × (List ty33.den) × Int × Int × Int × (List ty66.den))) (c79 : List ty33.den → Int → Int → Int → List ty66.den → Option ((List ty33.den) × Int × Int × Int × (List ty66.den))) (c62 : Int → List ty33.den → Int → Int → Int → List ty66.den → Option ((List ty33.den) × Int × Int × Int × (List ty66.den))) (c89 : List UInt8 → List ty33.den → Int → Int → Int → List ty66.den → Option ((List ty33.den) × Int × Int × Int × (List ty66.den))) (c90 : List ty33.den → Int → Option (Int × Int × (List ty98.den))) (c63 : Int → Int → List ty33.den → Int → Int → Int → List ty66.den → Option ((List ty33.den) × Int × Int × Int × (List ty66.den))) (p0 : List ty33.den) (p1 : Int) (p2 : Int) (p3 : Int) (p4 : List ty66.den) : Option ((List ty33.den) × Int × Int × Int × (List ty66.den)) := T79 Ops.std c88 c79 c62 c89 c90 c63 p0 p1 p2 p3 p4 (R79 c88 c79 c62 c89 c90 c63 p0 p1 p2 p3 p4 1000000) some none
theorem fo79 {R : Type} (c88 : List UInt8 → List ty33.den → Int → Int → Int → List ty66.den → Option (Bool × (List ty33.den) × Int × Int × Int × (List ty66.den))) (c79 : List ty33.den → Int → Int → Int → List ty66.den → Option ((List ty33.den) × Int × Int × Int × (List ty66.den))) (c62 : Int → List ty33.den → Int → Int → Int → List ty66.den → Option ((List ty33.den) × Int × Int × Int × (List ty66.den))) (c89 : List UInt8 → List ty33.den → Int → Int → Int → List ty66.den → Option ((List ty33.den) × Int × Int × Int × (List ty66.den))) (c90 : List ty33.den → Int → Option (Int × Int × (List ty98.den))) (c63 : Int → Int → List ty33.den → Int → Int → Int → List ty66.den → Option ((List ty33.den) × Int × Int × Int × (List ty66.den))) (p0 : List ty33.den) (p1 : Int) (p2 : Int) (p3 : Int) (p4 : List ty66.den) (k : AV → Objs → Option R) : afun tau Ops.std gl0 X79 (ent 88 (e88 c88) (ent 79 (e79 c79) (ent 62 (e62 c62) (ent 89 (e89 c89) (ent 90 (e90 c90) (ent 63 (e63 c63) (gnil))))))) ow Try.f79 [.c (.ptr 0 0)] [(0, .box 86 [.list 33 ty33 p0, .int .i64 p1, .own 1002, .int .i64 p2, .int .i64 p3]), (1002, .row 66 ty66 p4)] k 1000000 = ob (F79 c88 c79 c62 c89 c90 c63 p0 p1 p2 p3 p4) (fun y => k (.tup []) [(0, .box 86 [.list 33 ty33 y.1, .int .i64 y.2.1, .own 1002, .int .i64 y.2.2.1, .int .i64 y.2.2.2.1]), (1002, .row 66 ty66 y.2.2.2.2)]) := by rw [eq79]; exact nt79 Ops.std c88 c79 c62 c89 c90 c63 p0 p1 p2 p3 p4 _ _ some (fun y => k (.tup []) [(0, .box 86 [.list 33 ty33 y.1, .int .i64 y.2.1, .own 1002, .int .i64 y.2.2.1, .int .i64 y.2.2.2.1]), (1002, .row 66 ty66 y.2.2.2.2)]) (rr79 c88 c79 c62 c89 c90 c63 p0 p1 p2 p3 p4 k 1000000) none
theorem sf79 {c88 : List UInt8 → List ty33.den → Int → Int → Int → List ty66.den → Option (Bool × (List ty33.den) × Int × Int × Int × (List ty66.den))} {c79 : List ty33.den → Int → Int → Int → List ty66.den → Option ((List ty33.den) × Int × Int × Int × (List ty66.den))} {c62 : Int → List ty33.den → Int → Int → Int → List ty66.den → Option ((List ty33.den) × Int × Int × Int × (List ty66.den))} {c89 : List UInt8 → List ty33.den → Int → Int → Int → List ty66.den → Option ((List ty33.den) × Int × Int × Int × (List ty66.den))} {c90 : List ty33.den → Int → Option (Int × Int × (List ty98.den))} {c63 : Int → Int → List ty33.den → Int → Int → Int → List ty66.den → Option ((List ty33.den) × Int × Int × Int × (List ty66.den))} (h88 : Sp88 c88) (h79 : Sp79 c79) (h62 : Sp62 c62) (h89 : Sp89 c89) (h90 : Sp90 c90) (h63 : Sp63 c63) : Sp79 (F79 c88 c79 c62 c89 c90 c63) := fun p0 p1 p2 p3 p4 y hy => by
  refine spec_of (G := ent 88 (e88 c88) (ent 79 (e79 c79) (ent 62 (e62 c62) (ent 89 (e89 c89) (ent 90 (e90 c90) (ent 63 (e63 c63) (gnil))))))) (ent_ok (ek88 h88) (ent_ok (ek79 h79) (ent_ok (ek62 h62) (ent_ok (ek89 h89) (ent_ok (ek90 h90) (ent_ok (ek63 h63) (gnil_ok))))))) 1000000 (fn := Try.f79) (by kernel_rfl) (by kernel_rfl) (X := X79) (by kernel_rfl) ?_
  rw [fo79, hy]
  rfl
noncomputable def Rec62 : Nat → (Int → List ty33.den → Int → Int → Int → List ty66.den → Option ((List ty33.den) × Int × Int × Int × (List ty66.den))) × (List ty33.den → Int → Int → Int → List ty66.den → Option ((List ty33.den) × Int × Int × Int × (List ty66.den)))
  | 0 => (fun _ _ _ _ _ _ => none, fun _ _ _ _ _ => none)
  | d + 1 => (F62 (Rec62 d).2 (Rec62 d).1 M80, F79 M88 (Rec62 d).2 (Rec62 d).1 M89 M90 M63)
theorem rec62 : ∀ d, Sp62 (Rec62 d).1 ∧ Sp79 (Rec62 d).2
  | 0 => ⟨(fun p0 p1 p2 p3 p4 p5 y (h : (none : Option ((List ty33.den) × Int × Int × Int × (List ty66.den))) = some y) => by cases h), (fun p0 p1 p2 p3 p4 y (h : (none : Option ((List ty33.den) × Int × Int × Int × (List ty66.den))) = some y) => by cases h)⟩
  | d + 1 => ⟨sf62 (rec62 d).2 (rec62 d).1 sm80, sf79 sm88 (rec62 d).2 (rec62 d).1 sm89 sm90 sm63⟩
noncomputable def M62 : Int → List ty33.den → Int → Int → Int → List ty66.den → Option ((List ty33.den) × Int × Int × Int × (List ty66.den)) := (Rec62 1000000).1
theorem sm62 : Sp62 M62 := (rec62 1000000).1
noncomputable def M79 : List ty33.den → Int → Int → Int → List ty66.den → Option ((List ty33.den) × Int × Int × Int × (List ty66.den)) := (Rec62 1000000).2
theorem sm79 : Sp79 M79 := (rec62 1000000).2

/-! ### 42: lariat/lariatref13.Parse -/
def X42 : Aux := ⟨[], [(9, .lin [0, 1, 2, 3, 4, 5, 6, 7, 8, 9, 10, 11, 12, 13, 14])]⟩
def T42 {R : Type} (B : Ops) (c61 : List UInt8 → Option (Int × Int × (List ty33.den))) (c62 : Int → List ty33.den → Int → Int → Int → List ty66.den → Option ((List ty33.den) × Int × Int × Int × (List ty66.den))) (c63 : Int → Int → List ty33.den → Int → Int → Int → List ty66.den → Option ((List ty33.den) × Int × Int × Int × (List ty66.den))) (p0 : List UInt8) (k : (Int × Int × (List ty66.den)) → Option R) : Option R :=
  ob (c61 p0) fun y0 =>
  cond (!Ops.eq B (Prod.fst y0) (0))
   (
    k ((Prod.fst y0, Prod.fst (Prod.snd y0), mt (Ty.den (Ty.pair (Ty.int IntKind.i64) (Ty.list (98) (Ty.pair (Ty.int IntKind.i64) (Ty.pair (Ty.int IntKind.i64) (Ty.pair Ty.str Ty.str)))))))))
   (
    ob (c62 (1) (Prod.snd (Prod.snd y0)) (0) (0) (0) (mt (Ty.den (Ty.pair (Ty.int IntKind.i64) (Ty.list (98) (Ty.pair (Ty.int IntKind.i64) (Ty.pair (Ty.int IntKind.i64) (Ty.pair Ty.str Ty.str)))))))) fun y1 =>
    cond (Ops.eq B (Prod.fst (Prod.snd (Prod.snd y1))) (0))
     (
      cond (Ops.inb B (Prod.fst (Prod.snd y1)) (List.length (Prod.snd (Prod.snd y0))))
       (
        cond (!Ops.eq B (Prod.fst (List.getD (Prod.snd (Prod.snd y0)) (Int.toNat (Prod.fst (Prod.snd y1))) (Ty.dflt ty33))) (5))
         (
          ob (c63 (2) (Prod.fst (Prod.snd y1)) (Prod.fst y1) (Prod.fst (Prod.snd y1)) (Prod.fst (Prod.snd (Prod.snd y1))) (Prod.fst (Prod.snd (Prod.snd (Prod.snd y1)))) (Prod.snd (Prod.snd (Prod.snd (Prod.snd y1))))) fun y2 =>
          cond (!Ops.eq B (Prod.fst (Prod.snd (Prod.snd y2))) (0))
           (
            cond (Ops.inb B (Prod.fst (Prod.snd (Prod.snd (Prod.snd y2)))) (List.length (Prod.snd (Prod.snd y0))))
             (
              k ((Prod.fst (Prod.snd (Prod.snd y2)), Prod.snd (Prod.snd (Prod.snd (List.getD (Prod.snd (Prod.snd y0)) (Int.toNat (Prod.fst (Prod.snd (Prod.snd (Prod.snd y2))))) (Ty.dflt ty33)))), mt (Ty.den (Ty.pair (Ty.int IntKind.i64) (Ty.list (98) (Ty.pair (Ty.int IntKind.i64) (Ty.pair (Ty.int IntKind.i64) (Ty.pair Ty.str Ty.str)))))))))
             (
              none))
           (
            cond (Ops.lt B (24) (Nat.cast (List.length (Prod.snd (Prod.snd (Prod.snd (Prod.snd y2)))))))
             (
              k ((13, 0, mt (Ty.den (Ty.pair (Ty.int IntKind.i64) (Ty.list (98) (Ty.pair (Ty.int IntKind.i64) (Ty.pair (Ty.int IntKind.i64) (Ty.pair Ty.str Ty.str)))))))))
             (
              k ((0, 0, Prod.snd (Prod.snd (Prod.snd (Prod.snd y2))))))))
         (
          cond (!Ops.eq B (Prod.fst (Prod.snd (Prod.snd y1))) (0))
           (
            cond (Ops.inb B (Prod.fst (Prod.snd (Prod.snd (Prod.snd y1)))) (List.length (Prod.snd (Prod.snd y0))))
             (
              k ((Prod.fst (Prod.snd (Prod.snd y1)), Prod.snd (Prod.snd (Prod.snd (List.getD (Prod.snd (Prod.snd y0)) (Int.toNat (Prod.fst (Prod.snd (Prod.snd (Prod.snd y1))))) (Ty.dflt ty33)))), mt (Ty.den (Ty.pair (Ty.int IntKind.i64) (Ty.list (98) (Ty.pair (Ty.int IntKind.i64) (Ty.pair (Ty.int IntKind.i64) (Ty.pair Ty.str Ty.str)))))))))
             (
              none))
           (
            cond (Ops.lt B (24) (Nat.cast (List.length (Prod.snd (Prod.snd (Prod.snd (Prod.snd y1)))))))
             (
              k ((13, 0, mt (Ty.den (Ty.pair (Ty.int IntKind.i64) (Ty.list (98) (Ty.pair (Ty.int IntKind.i64) (Ty.pair (Ty.int IntKind.i64) (Ty.pair Ty.str Ty.str)))))))))
             (
              k ((0, 0, Prod.snd (Prod.snd (Prod.snd (Prod.snd y1)))))))))
       (
        none))
     (
      cond (!Ops.eq B (Prod.fst (Prod.snd (Prod.snd y1))) (0))
       (
        cond (Ops.inb B (Prod.fst (Prod.snd (Prod.snd (Prod.snd y1)))) (List.length (Prod.snd (Prod.snd y0))))
         (
          k ((Prod.fst (Prod.snd (Prod.snd y1)), Prod.snd (Prod.snd (Prod.snd (List.getD (Prod.snd (Prod.snd y0)) (Int.toNat (Prod.fst (Prod.snd (Prod.snd (Prod.snd y1))))) (Ty.dflt ty33)))), mt (Ty.den (Ty.pair (Ty.int IntKind.i64) (Ty.list (98) (Ty.pair (Ty.int IntKind.i64) (Ty.pair (Ty.int IntKind.i64) (Ty.pair Ty.str Ty.str)))))))))
         (
          none))
       (
        cond (Ops.lt B (24) (Nat.cast (List.length (Prod.snd (Prod.snd (Prod.snd (Prod.snd y1)))))))
         (
          k ((13, 0, mt (Ty.den (Ty.pair (Ty.int IntKind.i64) (Ty.list (98) (Ty.pair (Ty.int IntKind.i64) (Ty.pair (Ty.int IntKind.i64) (Ty.pair Ty.str Ty.str)))))))))
         (
          k ((0, 0, Prod.snd (Prod.snd (Prod.snd (Prod.snd y1)))))))))
theorem eq42 {R : Type} (B : Ops) (c61 : List UInt8 → Option (Int × Int × (List ty33.den))) (c62 : Int → List ty33.den → Int → Int → Int → List ty66.den → Option ((List ty33.den) × Int × Int × Int × (List ty66.den))) (c63 : Int → Int → List ty33.den → Int → Int → Int → List ty66.den → Option ((List ty33.den) × Int × Int × Int × (List ty66.den))) (p0 : List UInt8) (k : AV → Objs → Option R) (n : Nat) : afun tau B gl0 X42 (ent 61 (e61 c61) (ent 62 (e62 c62) (ent 63 (e63 c63) (gnil)))) ow Try.f42 [.c (.str p0)] [] k n = T42 B c61 c62 c63 p0 (fun y => k (.tup [(false, [.own 501000]), (false, [.int .i64 y.1]), (false, [.int .i64 y.2.1])]) [(501000, .row 66 ty66 y.2.2)]) := by kernel_rfl
theorem nt42 {R R' : Type} (B : Ops) (c61 : List UInt8 → Option (Int × Int × (List ty33.den))) (c62 : Int → List ty33.den → Int → Int → Int → List ty66.den → Option ((List ty33.den) × Int × Int × Int × (List ty66.den))) (c63 : Int → Int → List ty33.den → Int → Int → Int → List ty66.den → Option ((List ty33.den) × Int × Int × Int × (List ty66.den))) (p0 : List UInt8) (k0 : (Int × Int × (List ty66.den)) → Option R') (k : R' → Option R) : T42 B c61 c62 c63 p0 (fun y => ob (k0 y) k) = ob (T42 B c61 c62 c63 p0 k0) k := by
  unfold T42
  repeat' first | exact rfl | apply nat_cond | (apply nat_ob; intro)
def F42 (c61 : List UInt8 → Option (Int × Int × (List ty33.den))) (c62 : Int → List ty33.den → Int → Int → Int → List ty66.den → Option ((List ty33.den) × Int × Int × Int × (List ty66.den))) (c63 : Int → Int → List ty33.den → Int → Int → Int → List ty66.den → Option ((List ty33.den) × Int × Int × Int × (List ty66.den))) (p0 : List UInt8) : Option (Int × Int × (List ty66.den)) := T42 Ops.std c61 c62 c63 p0 some
theorem fo42 {R : Type} (c61 : List UInt8 → Option (Int × Int × (List ty33.den))) (c62 : Int → List ty33.den → Int → Int → Int → List ty66.den → Option ((List ty33.den) × Int × Int × Int × (List ty66.den))) (c63 : Int → Int → List ty33.den → Int → Int → Int → List ty66.den → Option ((List ty33.den) × Int × Int × Int × (List ty66.den))) (p0 : List UInt8) (k : AV → Objs → Option R) (n : Nat) : afun tau Ops.std gl0 X42 (ent 61 (e61 c61) (ent 62 (e62 c62) (ent 63 (e63 c63) (gnil)))) ow Try.f42 [.c (.str p0)] [] k n = ob (F42 c61 c62 c63 p0) (fun y => k (.tup [(false, [.own 501000]), (false, [.int .i64 y.1]), (false, [.int .i64 y.2.1])]) [(501000, .row 66 ty66 y.2.2)]) := by rw [eq42]; exact nt42 Ops.std c61 c62 c63 p0 some (fun y => k (.tup [(false, [.own 501000]), (false, [.int .i64 y.1]), (false, [.int .i64 y.2.1])]) [(501000, .row 66 ty66 y.2.2)])
def e42 {R : Type} (c : List UInt8 → Option (Int × Int × (List ty66.den))) : Ent R := fun args objs k =>
  oCons args fun a0 l0 => oC a0 fun x0 => cStr x0 fun p0 => oNil l0 <| oNilO objs <| ob (c p0) fun y => k (.tup [(false, [.own 501000]), (false, [.int .i64 y.1]), (false, [.int .i64 y.2.1])]) [(501000, .row 66 ty66 y.2.2)]
abbrev Sp42 (c : List UInt8 → Option (Int × Int × (List ty66.den))) : Prop := ∀ (p0 : List UInt8) (y : Int × Int × (List ty66.den)), c p0 = some y → Spec Try.prog gl0 42 [.c (.str p0)] [] (.tup [(false, [.own 501000]), (false, [.int .i64 y.1]), (false, [.int .i64 y.2.1])]) [(501000, .row 66 ty66 y.2.2)]
theorem ek42 {R : Type} {c : List UInt8 → Option (Int × Int × (List ty66.den))} (hs : Sp42 c) : EOk 42 (e42 (R := R) c) := fun args objs k r h => by
  unfold e42 at h
  obtain ⟨a0, l0, rfl, q1⟩ := oCons_some h
  obtain ⟨x0, rfl, q2⟩ := oC_some q1
  obtain ⟨p0, rfl, q3⟩ := cStr_some q2
  obtain ⟨rfl, q4⟩ := oNil_some q3
  obtain ⟨rfl, q5⟩ := oNilO_some q4
  exact eok_of (hs p0) q5
theorem sf42 {c61 : List UInt8 → Option (Int × Int × (List ty33.den))} {c62 : Int → List ty33.den → Int → Int → Int → List ty66.den → Option ((List ty33.den) × Int × Int × Int × (List ty66.den))} {c63 : Int → Int → List ty33.den → Int → Int → Int → List ty66.den → Option ((List ty33.den) × Int × Int × Int × (List ty66.den))} (h61 : Sp61 c61) (h62 : Sp62 c62) (h63 : Sp63 c63) : Sp42 (F42 c61 c62 c63) := fun p0 y hy => by
  refine spec_of (G := ent 61 (e61 c61) (ent 62 (e62 c62) (ent 63 (e63 c63) (gnil)))) (ent_ok (ek61 h61) (ent_ok (ek62 h62) (ent_ok (ek63 h63) (gnil_ok)))) 1000000 (fn := Try.f42) (by kernel_rfl) (by kernel_rfl) (X := X42) (by kernel_rfl) ?_
  rw [fo42, hy]
  rfl
noncomputable def M42 : List UInt8 → Option (Int × Int × (List ty66.den)) := F42 M61 M62 M63
theorem sm42 : Sp42 M42 := sf42 sm61 sm62 sm63

/-! ### 31: lariat/lariatlaw14.of -/
def X31 : Aux := ⟨[], []⟩
def T31 {R : Type} (B : Ops) (c42 : List UInt8 → Option (Int × Int × (List ty66.den))) (p0 : List UInt8) (k : ((List ty66.den)) → Option R) : Option R :=
  ob (c42 p0) fun y0 =>
  k (Prod.snd (Prod.snd y0))
theorem eq31 {R : Type} (B : Ops) (c42 : List UInt8 → Option (Int × Int × (List ty66.den))) (p0 : List UInt8) (k : AV → Objs → Option R) (n : Nat) : afun tau B gl0 X31 (ent 42 (e42 c42) (gnil)) ow Try.f31 [.c (.str p0)] [] k n = T31 B c42 p0 (fun y => k (.c (.own 500)) [(500, .row 66 ty66 y)]) := by kernel_rfl
theorem nt31 {R R' : Type} (B : Ops) (c42 : List UInt8 → Option (Int × Int × (List ty66.den))) (p0 : List UInt8) (k0 : ((List ty66.den)) → Option R') (k : R' → Option R) : T31 B c42 p0 (fun y => ob (k0 y) k) = ob (T31 B c42 p0 k0) k := by
  unfold T31
  repeat' first | exact rfl | apply nat_cond | (apply nat_ob; intro)
def F31 (c42 : List UInt8 → Option (Int × Int × (List ty66.den))) (p0 : List UInt8) : Option ((List ty66.den)) := T31 Ops.std c42 p0 some
theorem fo31 {R : Type} (c42 : List UInt8 → Option (Int × Int × (List ty66.den))) (p0 : List UInt8) (k : AV → Objs → Option R) (n : Nat) : afun tau Ops.std gl0 X31 (ent 42 (e42 c42) (gnil)) ow Try.f31 [.c (.str p0)] [] k n = ob (F31 c42 p0) (fun y => k (.c (.own 500)) [(500, .row 66 ty66 y)]) := by rw [eq31]; exact nt31 Ops.std c42 p0 some (fun y => k (.c (.own 500)) [(500, .row 66 ty66 y)])
def e31 {R : Type} (c : List UInt8 → Option ((List ty66.den))) : Ent R := fun args objs k =>
  oCons args fun a0 l0 => oC a0 fun x0 => cStr x0 fun p0 => oNil l0 <| oNilO objs <| ob (c p0) fun y => k (.c (.own 500)) [(500, .row 66 ty66 y)]
abbrev Sp31 (c : List UInt8 → Option ((List ty66.den))) : Prop := ∀ (p0 : List UInt8) (y : (List ty66.den)), c p0 = some y → Spec Try.prog gl0 31 [.c (.str p0)] [] (.c (.own 500)) [(500, .row 66 ty66 y)]
theorem ek31 {R : Type} {c : List UInt8 → Option ((List ty66.den))} (hs : Sp31 c) : EOk 31 (e31 (R := R) c) := fun args objs k r h => by
  unfold e31 at h
  obtain ⟨a0, l0, rfl, q1⟩ := oCons_some h
  obtain ⟨x0, rfl, q2⟩ := oC_some q1
  obtain ⟨p0, rfl, q3⟩ := cStr_some q2
  obtain ⟨rfl, q4⟩ := oNil_some q3
  obtain ⟨rfl, q5⟩ := oNilO_some q4
  exact eok_of (hs p0) q5
theorem sf31 {c42 : List UInt8 → Option (Int × Int × (List ty66.den))} (h42 : Sp42 c42) : Sp31 (F31 c42) := fun p0 y hy => by
  refine spec_of (G := ent 42 (e42 c42) (gnil)) (ent_ok (ek42 h42) (gnil_ok)) 1000000 (fn := Try.f31) (by kernel_rfl) (by kernel_rfl) (X := X31) (by kernel_rfl) ?_
  rw [fo31, hy]
  rfl
noncomputable def M31 : List UInt8 → Option ((List ty66.den)) := F31 M42
theorem sm31 : Sp31 M31 := sf31 sm42

/-! ### 28: lariat/lariatlaw14.is -/
def X28 : Aux := ⟨[], []⟩
def T28 {R : Type} (B : Ops) (c31 : List UInt8 → Option ((List ty66.den))) (c33 : List ty66.den → Option ((List ty66.den))) (c29 : List ty66.den → Option ((List UInt8))) (p0 : List UInt8) (p1 : List UInt8) (k : (Bool) → Option R) : Option R :=
  ob (c31 p0) fun y0 =>
  ob (c33 y0) fun y1 =>
  ob (c29 y1) fun y2 =>
  k (y2 == p1)
theorem eq28 {R : Type} (B : Ops) (c31 : List UInt8 → Option ((List ty66.den))) (c33 : List ty66.den → Option ((List ty66.den))) (c29 : List ty66.den → Option ((List UInt8))) (p0 : List UInt8) (p1 : List UInt8) (k : AV → Objs → Option R) (n : Nat) : afun tau B gl0 X28 (ent 31 (e31 c31) (ent 33 (e33 c33) (ent 29 (e29 c29) (gnil)))) ow Try.f28 [.c (.str p0), .c (.str p1)] [] k n = T28 B c31 c33 c29 p0 p1 (fun y => k (.c (.bool y)) []) := by kernel_rfl
theorem nt28 {R R' : Type} (B : Ops) (c31 : List UInt8 → Option ((List ty66.den))) (c33 : List ty66.den → Option ((List ty66.den))) (c29 : List ty66.den → Option ((List UInt8))) (p0 : List UInt8) (p1 : List UInt8) (k0 : (Bool) → Option R') (k : R' → Option R) : T28 B c31 c33 c29 p0 p1 (fun y => ob (k0 y) k) = ob (T28 B c31 c33 c29 p0 p1 k0) k := by
  unfold T28
  repeat' first | exact rfl | apply nat_cond | (apply nat_ob; intro)
def F28 (c31 : List UInt8 → Option ((List ty66.den))) (c33 : List ty66.den → Option ((List ty66.den))) (c29 : List ty66.den → Option ((List UInt8))) (p0 : List UInt8) (p1 : List UInt8) : Option (Bool) := T28 Ops.std c31 c33 c29 p0 p1 some
theorem fo28 {R : Type} (c31 : List UInt8 → Option ((List ty66.den))) (c33 : List ty66.den → Option ((List ty66.den))) (c29 : List ty66.den → Option ((List UInt8))) (p0 : List UInt8) (p1 : List UInt8) (k : AV → Objs → Option R) (n : Nat) : afun tau Ops.std gl0 X28 (ent 31 (e31 c31) (ent 33 (e33 c33) (ent 29 (e29 c29) (gnil)))) ow Try.f28 [.c (.str p0), .c (.str p1)] [] k n = ob (F28 c31 c33 c29 p0 p1) (fun y => k (.c (.bool y)) []) := by rw [eq28]; exact nt28 Ops.std c31 c33 c29 p0 p1 some (fun y => k (.c (.bool y)) [])
def e28 {R : Type} (c : List UInt8 → List UInt8 → Option (Bool)) : Ent R := fun args objs k =>
  oCons args fun a0 l0 => oC a0 fun x0 => cStr x0 fun p0 => oCons l0 fun a1 l1 => oC a1 fun x1 => cStr x1 fun p1 => oNil l1 <| oNilO objs <| ob (c p0 p1) fun y => k (.c (.bool y)) []
abbrev Sp28 (c : List UInt8 → List UInt8 → Option (Bool)) : Prop := ∀ (p0 : List UInt8) (p1 : List UInt8) (y : Bool), c p0 p1 = some y → Spec Try.prog gl0 28 [.c (.str p0), .c (.str p1)] [] (.c (.bool y)) []
theorem ek28 {R : Type} {c : List UInt8 → List UInt8 → Option (Bool)} (hs : Sp28 c) : EOk 28 (e28 (R := R) c) := fun args objs k r h => by
  unfold e28 at h
  obtain ⟨a0, l0, rfl, q1⟩ := oCons_some h
  obtain ⟨x0, rfl, q2⟩ := oC_some q1
  obtain ⟨p0, rfl, q3⟩ := cStr_some q2
  obtain ⟨a1, l1, rfl, q4⟩ := oCons_some q3
  obtain ⟨x1, rfl, q5⟩ := oC_some q4
  obtain ⟨p1, rfl, q6⟩ := cStr_some q5
  obtain ⟨rfl, q7⟩ := oNil_some q6
  obtain ⟨rfl, q8⟩ := oNilO_some q7
  exact eok_of (hs p0 p1) q8
theorem sf28 {c31 : List UInt8 → Option ((List ty66.den))} {c33 : List ty66.den → Option ((List ty66.den))} {c29 : List ty66.den → Option ((List UInt8))} (h31 : Sp31 c31) (h33 : Sp33 c33) (h29 : Sp29 c29) : Sp28 (F28 c31 c33 c29) := fun p0 p1 y hy => by
  refine spec_of (G := ent 31 (e31 c31) (ent 33 (e33 c33) (ent 29 (e29 c29) (gnil)))) (ent_ok (ek31 h31) (ent_ok (ek33 h33) (ent_ok (ek29 h29) (gnil_ok)))) 1000000 (fn := Try.f28) (by kernel_rfl) (by kernel_rfl) (X := X28) (by kernel_rfl) ?_
  rw [fo28, hy]
  rfl
noncomputable def M28 : List UInt8 → List UInt8 → Option (Bool) := F28 M31 M33 M29
theorem sm28 : Sp28 M28 := sf28 sm31 sm33 sm29

/-! ### 27: lariat/lariatlaw14.known -/
def X27 : Aux := ⟨[], []⟩
def T27 {R : Type} (B : Ops) (c28 : List UInt8 → List UInt8 → Option (Bool)) (c31 : List UInt8 → Option ((List ty66.den))) (c32 : List ty66.den → Option (Bool)) (k : (Bool) → Option R) : Option R :=
  ob (c28 ([33, 71, 32, 91, 120, 61, 61, 49, 93] : List UInt8) ([116, 114, 117, 101, 32, 85, 32, 33, 91, 120, 61, 61, 49, 93] : List UInt8)) fun y0 =>
  cond (y0)
   (
    ob (c31 ([116, 114, 117, 101, 32, 85, 32, 33, 91, 120, 61, 61, 49, 93] : List UInt8)) fun y1 =>
    ob (c32 y1) fun y2 =>
    k y2)
   (
    k false)
theorem eq27 {R : Type} (B : Ops) (c28 : List UInt8 → List UInt8 → Option (Bool)) (c31 : List UInt8 → Option ((List ty66.den))) (c32 : List ty66.den → Option (Bool)) (k : AV → Objs → Option R) (n : Nat) : afun tau B gl0 X27 (ent 28 (e28 c28) (ent 31 (e31 c31) (ent 32 (e32 c32) (gnil)))) ow Try.f27 [] [] k n = T27 B c28 c31 c32 (fun y => k (.c (.bool y)) []) := by kernel_rfl
theorem nt27 {R R' : Type} (B : Ops) (c28 : List UInt8 → List UInt8 → Option (Bool)) (c31 : List UInt8 → Option ((List ty66.den))) (c32 : List ty66.den → Option (Bool)) (k0 : (Bool) → Option R') (k : R' → Option R) : T27 B c28 c31 c32 (fun y => ob (k0 y) k) = ob (T27 B c28 c31 c32 k0) k := by
  unfold T27
  repeat' first | exact rfl | apply nat_cond | (apply nat_ob; intro)
def F27 (c28 : List UInt8 → List UInt8 → Option (Bool)) (c31 : List UInt8 → Option ((List ty66.den))) (c32 : List ty66.den → Option (Bool)) : Option (Bool) := T27 Ops.std c28 c31 c32 some
theorem fo27 {R : Type} (c28 : List UInt8 → List UInt8 → Option (Bool)) (c31 : List UInt8 → Option ((List ty66.den))) (c32 : List ty66.den → Option (Bool)) (k : AV → Objs → Option R) (n : Nat) : afun tau Ops.std gl0 X27 (ent 28 (e28 c28) (ent 31 (e31 c31) (ent 32 (e32 c32) (gnil)))) ow Try.f27 [] [] k n = ob (F27 c28 c31 c32) (fun y => k (.c (.bool y)) []) := by rw [eq27]; exact nt27 Ops.std c28 c31 c32 some (fun y => k (.c (.bool y)) [])
def e27 {R : Type} (c : Option (Bool)) : Ent R := fun args objs k =>
  oNil args <| oNilO objs <| ob (c ) fun y => k (.c (.bool y)) []
abbrev Sp27 (c : Option (Bool)) : Prop := ∀ (y : Bool), c = some y → Spec Try.prog gl0 27 [] [] (.c (.bool y)) []
theorem ek27 {R : Type} {c : Option (Bool)} (hs : Sp27 c) : EOk 27 (e27 (R := R) c) := fun args objs k r h => by
  unfold e27 at h
  obtain ⟨rfl, q1⟩ := oNil_some h
  obtain ⟨rfl, q2⟩ := oNilO_some q1
  exact eok_of (hs ) q2
theorem sf27 {c28 : List UInt8 → List UInt8 → Option (Bool)} {c31 : List UInt8 → Option ((List ty66.den))} {c32 : List ty66.den → Option (Bool)} (h28 : Sp28 c28) (h31 : Sp31 c31) (h32 : Sp32 c32) : Sp27 (F27 c28 c31 c32) := fun y hy => by
  refine spec_of (G := ent 28 (e28 c28) (ent 31 (e31 c31) (ent 32 (e32 c32) (gnil)))) (ent_ok (ek28 h28) (ent_ok (ek31 h31) (ent_ok (ek32 h32) (gnil_ok)))) 1000000 (fn := Try.f27) (by kernel_rfl) (by kernel_rfl) (X := X27) (by kernel_rfl) ?_
  rw [fo27, hy]
  rfl
noncomputable def M27 : Option (Bool) := F27 M28 M31 M32
theorem sm27 : Sp27 M27 := sf27 sm28 sm31 sm32

/-! ### 10: lariat/lariatlaw14.NnfTwice -/
def X10 : Aux := ⟨[], []⟩
def T10 {R : Type} (B : Ops) (c27 : Option (Bool)) (c22 : List ty3.den → Option ((List UInt8))) (c31 : List UInt8 → Option ((List ty66.den))) (c33 : List ty66.den → Option ((List ty66.den))) (c30 : List ty66.den → Option ((List ty66.den))) (c32 : List ty66.den → Option (Bool)) (c35 : List ty66.den → List ty66.den → Option (Bool)) (p0 : List ty3.den) (k : (Bool) → Option R) : Option R :=
  ob (c27) fun y0 =>
  cond (!y0)
   (
    k false)
   (
    ob (c22 p0) fun y1 =>
    ob (c31 y1) fun y2 =>
    ob (c27) fun y3 =>
    cond (!y3)
     (
      ob (c27) fun y4 =>
      k y4)
     (
      cond (Ops.eq B (Nat.cast (List.length y2)) (0))
       (
        ob (c27) fun y4 =>
        k y4)
       (
        ob (c33 y2) fun y4 =>
        cond (Ops.eq B (Nat.cast (List.length y4)) (0))
         (
          k (Ops.lt B (20) (Nat.cast (List.length y2))))
         (
          ob (c30 y2) fun y5 =>
          ob (c32 y4) fun y6 =>
          cond (y6)
           (
            ob (c33 y4) fun y7 =>
            ob (c35 y7 y4) fun y8 =>
            cond (y8)
             (
              ob (c30 y5) fun y9 =>
              ob (c35 y9 y4) fun y10 =>
              cond (y10)
               (
                ob (c30 y4) fun y11 =>
                ob (c35 y11 y5) fun y12 =>
                cond (y12)
                 (
                  ob (c32 y5) fun y13 =>
                  k y13)
                 (
                  k false))
               (
                k false))
             (
              k false))
           (
            k false)))))
theorem eq10 {R : Type} (B : Ops) (c27 : Option (Bool)) (c22 : List ty3.den → Option ((List UInt8))) (c31 : List UInt8 → Option ((List ty66.den))) (c33 : List ty66.den → Option ((List ty66.den))) (c30 : List ty66.den → Option ((List ty66.den))) (c32 : List ty66.den → Option (Bool)) (c35 : List ty66.den → List ty66.den → Option (Bool)) (p0 : List ty3.den) (k : AV → Objs → Option R) (n : Nat) : afun tau B gl0 X10 (ent 27 (e27 c27) (ent 22 (e22 c22) (ent 31 (e31 c31) (ent 33 (e33 c33) (ent 30 (e30 c30) (ent 32 (e32 c32) (ent 35 (e35 c35) (gnil)))))))) ow Try.f10 [.c (.list 3 ty3 p0)] [] k n = T10 B c27 c22 c31 c33 c30 c32 c35 p0 (fun y => k (.c (.bool y)) []) := by kernel_rfl
theorem nt10 {R R' : Type} (B : Ops) (c27 : Option (Bool)) (c22 : List ty3.den → Option ((List UInt8))) (c31 : List UInt8 → Option ((List ty66.den))) (c33 : List ty66.den → Option ((List ty66.den))) (c30 : List ty66.den → Option ((List ty66.den))) (c32 : List ty66.den → Option (Bool)) (c35 : List ty66.den → List ty66.den → Option (Bool)) (p0 : List ty3.den) (k0 : (Bool) → Option R') (k : R' → Option R) : T10 B c27 c22 c31 c33 c30 c32 c35 p0 (fun y => ob (k0 y) k) = ob (T10 B c27 c22 c31 c33 c30 c32 c35 p0 k0) k := by
  unfold T10
  repeat' first | exact rfl | apply nat_cond | (apply nat_ob; intro)
def F10 (c27 : Option (Bool)) (c22 : List ty3.den → Option ((List UInt8))) (c31 : List UInt8 → Option ((List ty66.den))) (c33 : List ty66.den → Option ((List ty66.den))) (c30 : List ty66.den → Option ((List ty66.den))) (c32 : List ty66.den → Option (Bool)) (c35 : List ty66.den → List ty66.den → Option (Bool)) (p0 : List ty3.den) : Option (Bool) := T10 Ops.std c27 c22 c31 c33 c30 c32 c35 p0 some
theorem fo10 {R : Type} (c27 : Option (Bool)) (c22 : List ty3.den → Option ((List UInt8))) (c31 : List UInt8 → Option ((List ty66.den))) (c33 : List ty66.den → Option ((List ty66.den))) (c30 : List ty66.den → Option ((List ty66.den))) (c32 : List ty66.den → Option (Bool)) (c35 : List ty66.den → List ty66.den → Option (Bool)) (p0 : List ty3.den) (k : AV → Objs → Option R) (n : Nat) : afun tau Ops.std gl0 X10 (ent 27 (e27 c27) (ent 22 (e22 c22) (ent 31 (e31 c31) (ent 33 (e33 c33) (ent 30 (e30 c30) (ent 32 (e32 c32) (ent 35 (e35 c35) (gnil)))))))) ow Try.f10 [.c (.list 3 ty3 p0)] [] k n = ob (F10 c27 c22 c31 c33 c30 c32 c35 p0) (fun y => k (.c (.bool y)) []) := by rw [eq10]; exact nt10 Ops.std c27 c22 c31 c33 c30 c32 c35 p0 some (fun y => k (.c (.bool y)) [])
def e10 {R : Type} (c : List ty3.den → Option (Bool)) : Ent R := fun args objs k =>
  oCons args fun a0 l0 => oC a0 fun x0 => cList 3 ty3 x0 fun p0 => oNil l0 <| oNilO objs <| ob (c p0) fun y => k (.c (.bool y)) []
abbrev Sp10 (c : List ty3.den → Option (Bool)) : Prop := ∀ (p0 : List ty3.den) (y : Bool), c p0 = some y → Spec Try.prog gl0 10 [.c (.list 3 ty3 p0)] [] (.c (.bool y)) []
theorem ek10 {R : Type} {c : List ty3.den → Option (Bool)} (hs : Sp10 c) : EOk 10 (e10 (R := R) c) := fun args objs k r h => by
  unfold e10 at h
  obtain ⟨a0, l0, rfl, q1⟩ := oCons_some h
  obtain ⟨x0, rfl, q2⟩ := oC_some q1
  obtain ⟨p0, rfl, q3⟩ := cList_some q2
  obtain ⟨rfl, q4⟩ := oNil_some q3
  obtain ⟨rfl, q5⟩ := oNilO_some q4
  exact eok_of (hs p0) q5
theorem sf10 {c27 : Option (Bool)} {c22 : List ty3.den → Option ((List UInt8))} {c31 : List UInt8 → Option ((List ty66.den))} {c33 : List ty66.den → Option ((List ty66.den))} {c30 : List ty66.den → Option ((List ty66.den))} {c32 : List ty66.den → Option (Bool)} {c35 : List ty66.den → List ty66.den → Option (Bool)} (h27 : Sp27 c27) (h22 : Sp22 c22) (h31 : Sp31 c31) (h33 : Sp33 c33) (h30 : Sp30 c30) (h32 : Sp32 c32) (h35 : Sp35 c35) : Sp10 (F10 c27 c22 c31 c33 c30 c32 c35) := fun p0 y hy => by
  refine spec_of (G := ent 27 (e27 c27) (ent 22 (e22 c22) (ent 31 (e31 c31) (ent 33 (e33 c33) (ent 30 (e30 c30) (ent 32 (e32 c32) (ent 35 (e35 c35) (gnil)))))))) (ent_ok (ek27 h27) (ent_ok (ek22 h22) (ent_ok (ek31 h31) (ent_ok (ek33 h33) (ent_ok (ek30 h30) (ent_ok (ek32 h32) (ent_ok (ek35 h35) (gnil_ok)))))))) 1000000 (fn := Try.f10) (by kernel_rfl) (by kernel_rfl) (X := X10) (by kernel_rfl) ?_
  rw [fo10, hy]
  rfl
noncomputable def M10 : List ty3.den → Option (Bool) := F10 M27 M22 M31 M33 M30 M32 M35
theorem sm10 : Sp10 M10 := sf10 sm27 sm22 sm31 sm33 sm30 sm32 sm35

/-! ### 47: lariat/lariatref13.Kids -/
def X47 : Aux := ⟨[(6, [1, 2, 6, 7, 8, 9, 10, 11, 12, 13, 14, 15, 16, 17, 18, 19, 20, 21, 22, 23, 24, 25, 26, 27, 28, 29, 30, 31, 32, 33, 34, 35, 36, 37, 38, 39, 40, 41, 42])], []⟩
inductive S47 where
  | l0 (v0_1 : Int) (v0_2 : List ty22.den) (v0_3 : List ty3.den)
def T47 {R : Type} (B : Ops) (c48 : List ty66.den → Option (Bool)) (c51 : Int → Option (Int)) (p0 : List ty66.den) (again : S47 → Option R) (k : ((List ty22.den)) → Option R) : Option S47 → Option R
  | none =>
    ob (c48 p0) fun y0 =>
    cond (!y0)
     (
      k (mt (Ty.den (Ty.list (3) (Ty.int IntKind.i64)))))
     (
      again (.l0 0 (mt (Ty.den (Ty.list (3) (Ty.int IntKind.i64)))) (mt (Ty.den (Ty.int IntKind.i64)))))
  | some (.l0 v0_1 v0_2 v0_3) =>
    cond (Ops.lt B v0_1 (Nat.cast (List.length p0)))
     (
      cond (Ops.inb B v0_1 (List.length p0))
       (
        ob (c51 (Prod.fst (List.getD p0 (Int.toNat v0_1) (Ty.dflt ty66)))) fun y0 =>
        cond (Ops.lt B (IntKind.wrap IntKind.i64 (Nat.cast (List.length v0_3) - y0)) (0))
         (
          k (mt (Ty.den (Ty.list (3) (Ty.int IntKind.i64)))))
         (
          cond (Ops.inb B (IntKind.wrap IntKind.i64 (Nat.cast (List.length v0_3) - y0)) (List.length v0_3 + 1))
           (
            cond (Ops.lim B (List.length (mt (Ty.den (Ty.int IntKind.i64))) + List.length (List.drop (Int.toNat (IntKind.wrap IntKind.i64 (Nat.cast (List.length v0_3) - y0))) (List.take (List.length v0_3) v0_3))) (8))
             (
              cond (Ops.lim B (List.length v0_2 + List.length ((mt (Ty.den (Ty.int IntKind.i64)) ++ List.drop (Int.toNat (IntKind.wrap IntKind.i64 (Nat.cast (List.length v0_3) - y0))) (List.take (List.length v0_3) v0_3)) :: mt (Ty.den (Ty.list (3) (Ty.int IntKind.i64))))) (24))
               (
                cond (Ops.eq B (IntKind.wrap IntKind.i64 (Nat.cast (List.length v0_3) - y0)) (IntKind.wrap IntKind.i64 (Nat.cast (List.length v0_3) - y0)))
                 (
                  cond (Ops.inb B (IntKind.wrap IntKind.i64 (Nat.cast (List.length v0_3) - y0)) (List.length v0_3 + 1))
                   (
                    cond (Ops.lt B (0) (Nat.cast (List.length (v0_1 :: mt (Ty.den (Ty.int IntKind.i64))))))
                     (
                      cond (Ops.lim B (List.length (List.take (Int.toNat (IntKind.wrap IntKind.i64 (Nat.cast (List.length v0_3) - y0))) v0_3) + List.length (v0_1 :: mt (Ty.den (Ty.int IntKind.i64)))) (8))
                       (
                        again (.l0 (IntKind.wrap IntKind.i64 (v0_1 + 1)) (v0_2 ++ (mt (Ty.den (Ty.int IntKind.i64)) ++ List.drop (Int.toNat (IntKind.wrap IntKind.i64 (Nat.cast (List.length v0_3) - y0))) (List.take (List.length v0_3) v0_3)) :: mt (Ty.den (Ty.list (3) (Ty.int IntKind.i64)))) (List.take (Int.toNat (IntKind.wrap IntKind.i64 (Nat.cast (List.length v0_3) - y0))) v0_3 ++ v0_1 :: mt (Ty.den (Ty.int IntKind.i64)))))
                       (
                        none))
                     (
                      none))
                   (
                    none))
                 (
                  none))
               (
                none))
             (
              none))
           (
            none)))
       (
        none))
     (
      k v0_2)
def E47 (p0 : List ty66.den) : S47 → List AV × Objs
  | .l0 v0_1 v0_2 v0_3 => (mk 43 [(0, .c (.list 66 ty66 p0)), (3, .c (.own 3)), (4, .c (.own 4)), (5, .c (.int .i64 v0_1))], [(3, .row 22 ty22 v0_2), (4, .row 3 ty3 v0_3)])
def I47 : S47 → Nat
  | .l0 _ _ _ => 0
theorem eq47 {R : Type} (B : Ops) (c48 : List ty66.den → Option (Bool)) (c51 : Int → Option (Int)) (p0 : List ty66.den) (k : AV → Objs → Option R) (n : Nat) : afun tau B gl0 X47 (ent 48 (e48 c48) (ent 51 (e51 c51) (gnil))) ow Try.f47 [.c (.list 66 ty66 p0)] [] k n = T47 B c48 c51 p0 (fun s => aloop tau B gl0 X47 (ent 48 (e48 c48) (ent 51 (e51 c51) (gnil))) ow [] Try.f47 k (I47 s) (E47 p0 s) n) (fun y => k (.c (.own 500)) [(500, .row 22 ty22 y)]) none := by kernel_rfl
theorem el47 {R : Type} (B : Ops) (c48 : List ty66.den → Option (Bool)) (c51 : Int → Option (Int)) (p0 : List ty66.den) (k : AV → Objs → Option R) (n : Nat) : ∀ s, aloop tau B gl0 X47 (ent 48 (e48 c48) (ent 51 (e51 c51) (gnil))) ow [] Try.f47 k (I47 s) (E47 p0 s) (n + 1) = T47 B c48 c51 p0 (fun s => aloop tau B gl0 X47 (ent 48 (e48 c48) (ent 51 (e51 c51) (gnil))) ow [] Try.f47 k (I47 s) (E47 p0 s) n) (fun y => k (.c (.own 500)) [(500, .row 22 ty22 y)]) (some s)
  | .l0 v0_1 v0_2 v0_3 => by kernel_rfl
theorem nt47 {R R' : Type} (B : Ops) (c48 : List ty66.den → Option (Bool)) (c51 : Int → Option (Int)) (p0 : List ty66.den) (again : S47 → Option R) (again' : S47 → Option R') (k0 : ((List ty22.den)) → Option R') (k : R' → Option R) (h : ∀ s, again s = ob (again' s) k) : ∀ s, T47 B c48 c51 p0 again (fun y => ob (k0 y) k) s = ob (T47 B c48 c51 p0 again' k0 s) k
  | none => by unfold T47; repeat' first | exact rfl | exact h _ | apply nat_cond | (apply nat_ob; intro)
  | some (.l0 v0_1 v0_2 v0_3) => by unfold T47; repeat' first | exact rfl | exact h _ | apply nat_cond | (apply nat_ob; intro)
def R47 (c48 : List ty66.den → Option (Bool)) (c51 : Int → Option (Int)) (p0 : List ty66.den) : Nat → S47 → Option ((List ty22.den))
  | 0, _ => none
  | n + 1, s => T47 Ops.std c48 c51 p0 (R47 c48 c51 p0 n) some (some s)
theorem rr47 {R : Type} (c48 : List ty66.den → Option (Bool)) (c51 : Int → Option (Int)) (p0 : List ty66.den) (k : AV → Objs → Option R) : ∀ (n : Nat) (s : S47), aloop tau Ops.std gl0 X47 (ent 48 (e48 c48) (ent 51 (e51 c51) (gnil))) ow [] Try.f47 k (I47 s) (E47 p0 s) n = ob (R47 c48 c51 p0 n s) (fun y => k (.c (.own 500)) [(500, .row 22 ty22 y)])
  | 0, s => by cases s <;> rfl
  | n + 1, s => by rw [el47]; exact nt47 Ops.std c48 c51 p0 _ _ some (fun y => k (.c (.own 500)) [(500, .row 22 ty22 y)]) (rr47 c48 c51 p0 k n) (some s)
def F47 (c48 : List ty66.den → Option (Bool)) (c51 : Int → Option (Int)) (p0 : List ty66.den) : Option ((List ty22.den)) := T47 Ops.std c48 c51 p0 (R47 c48 c51 p0 1000000) some none
theorem fo47 {R : Type} (c48 : List ty66.den → Option (Bool)) (c51 : Int → Option (Int)) (p0 : List ty66.den) (k : AV → Objs → Option R) : afun tau Ops.std gl0 X47 (ent 48 (e48 c48) (ent 51 (e51 c51) (gnil))) ow Try.f47 [.c (.list 66 ty66 p0)] [] k 1000000 = ob (F47 c48 c51 p0) (fun y => k (.c (.own 500)) [(500, .row 22 ty22 y)]) := by rw [eq47]; exact nt47 Ops.std c48 c51 p0 _ _ some (fun y => k (.c (.own 500)) [(500, .row 22 ty22 y)]) (rr47 c48 c51 p0 k 1000000) none
def e47 {R : Type} (c : List ty66.den → Option ((List ty22.den))) : Ent R := fun args objs k =>
  oCons args fun a0 l0 => oC a0 fun x0 => cList 66 ty66 x0 fun p0 => oNil l0 <| oNilO objs <| ob (c p0) fun y => k (.c (.own 500)) [(500, .row 22 ty22 y)]
abbrev Sp47 (c : List ty66.den → Option ((List ty22.den))) : Prop := ∀ (p0 : List ty66.den) (y : (List ty22.den)), c p0 = some y → Spec Try.prog gl0 47 [.c (.list 66 ty66 p0)] [] (.c (.own 500)) [(500, .row 22 ty22 y)]
theorem ek47 {R : Type} {c : List ty66.den → Option ((List ty22.den))} (hs : Sp47 c) : EOk 47 (e47 (R := R) c) := fun args objs k r h => by
  unfold e47 at h
  obtain ⟨a0, l0, rfl, q1⟩ := oCons_some h
  obtain ⟨x0, rfl, q2⟩ := oC_some q1
  obtain ⟨p0, rfl, q3⟩ := cList_some q2
  obtain ⟨rfl, q4⟩ := oNil_some q3
  obtain ⟨rfl, q5⟩ := oNilO_some q4
  exact eok_of (hs p0) q5
theorem sf47 {c48 : List ty66.den → Option (Bool)} {c51 : Int → Option (Int)} (h48 : Sp48 c48) (h51 : Sp51 c51) : Sp47 (F47 c48 c51) := fun p0 y hy => by
  refine spec_of (G := ent 48 (e48 c48) (ent 51 (e51 c51) (gnil))) (ent_ok (ek48 h48) (ent_ok (ek51 h51) (gnil_ok))) 1000000 (fn := Try.f47) (by kernel_rfl) (by kernel_rfl) (X := X47) (by kernel_rfl) ?_
  rw [fo47, hy]
  rfl
noncomputable def M47 : List ty66.den → Option ((List ty22.den)) := F47 M48 M51
theorem sm47 : Sp47 M47 := sf47 sm48 sm51

/-! ### 36: lariat/lariatref13.Is -/
def X36 : Aux := ⟨[(5, [1, 2, 5, 6, 7, 8, 9, 10, 11, 12, 13, 14, 15, 16, 17, 18, 19, 20, 21, 22, 23, 24, 25, 26, 27, 28, 29, 30, 31, 32, 33, 34, 35, 36, 37])], []⟩
inductive S36 where
  | l0 (v0_1 : Int) (v0_2 : List ty22.den)
def T36 {R : Type} (B : Ops) (c48 : List ty66.den → Option (Bool)) (c47 : List ty66.den → Option ((List ty22.den))) (p0 : List ty66.den) (again : S36 → Option R) (k : (Bool) → Option R) : Option S36 → Option R
  | none =>
    ob (c48 p0) fun y0 =>
    cond (!y0)
     (
      k false)
     (
      ob (c47 p0) fun y1 =>
      again (.l0 0 y1))
  | some (.l0 v0_1 v0_2) =>
    cond (Ops.lt B v0_1 (Nat.cast (List.length p0)))
     (
      cond (Ops.inb B v0_1 (List.length p0))
       (
        cond (Ops.eq B (Prod.fst (List.getD p0 (Int.toNat v0_1) (Ty.dflt ty66))) (7))
         (
          k false)
         (
          cond (Ops.eq B (Prod.fst (List.getD p0 (Int.toNat v0_1) (Ty.dflt ty66))) (11))
           (
            k false)
           (
            cond (Ops.eq B (Prod.fst (List.getD p0 (Int.toNat v0_1) (Ty.dflt ty66))) (12))
             (
              k false)
             (
              cond (Ops.eq B (Prod.fst (List.getD p0 (Int.toNat v0_1) (Ty.dflt ty66))) (4))
               (
                cond (Ops.inb B v0_1 (List.length v0_2))
                 (
                  cond (Ops.inb B (0) (List.length (List.getD v0_2 (Int.toNat v0_1) (Ty.dflt ty22))))
                   (
                    cond (Ops.inb B (List.getD (List.getD v0_2 (Int.toNat v0_1) (Ty.dflt ty22)) (Int.toNat (0)) (Ty.dflt (Ty.int IntKind.i64))) (List.length p0))
                     (
                      cond (!Ops.eq B (Prod.fst (List.getD p0 (Int.toNat (List.getD (List.getD v0_2 (Int.toNat v0_1) (Ty.dflt ty22)) (Int.toNat (0)) (Ty.dflt (Ty.int IntKind.i64)))) (Ty.dflt ty66))) (3))
                       (
                        k false)
                       (
                        again (.l0 (IntKind.wrap IntKind.i64 (v0_1 + 1)) v0_2)))
                     (
                      none))
                   (
                    none))
                 (
                  none))
               (
                again (.l0 (IntKind.wrap IntKind.i64 (v0_1 + 1)) v0_2))))))
       (
        none))
     (
      k true)
def E36 (p0 : List ty66.den) : S36 → List AV × Objs
  | .l0 v0_1 v0_2 => (mk 38 [(0, .c (.list 66 ty66 p0)), (3, .c (.own 3)), (4, .c (.int .i64 v0_1))], [(3, .row 22 ty22 v0_2)])
def I36 : S36 → Nat
  | .l0 _ _ => 0
theorem eq36 {R : Type} (B : Ops) (c48 : List ty66.den → Option (Bool)) (c47 : List ty66.den → Option ((List ty22.den))) (p0 : List ty66.den) (k : AV → Objs → Option R) (n : Nat) : afun tau B gl0 X36 (ent 48 (e48 c48) (ent 47 (e47 c47) (gnil))) ow Try.f36 [.c (.list 66 ty66 p0)] [] k n = T36 B c48 c47 p0 (fun s => aloop tau B gl0 X36 (ent 48 (e48 c48) (ent 47 (e47 c47) (gnil))) ow [] Try.f36 k (I36 s) (E36 p0 s) n) (fun y => k (.c (.bool y)) []) none := by kernel_rfl
theorem el36 {R : Type} (B : Ops) (c48 : List ty66.den → Option (Bool)) (c47 : List ty66.den → Option ((List ty22.den))) (p0 : List ty66.den) (k : AV → Objs → Option R) (n : Nat) : ∀ s, aloop tau B gl0 X36 (ent 48 (e48 c48) (ent 47 (e47 c47) (gnil))) ow [] Try.f36 k (I36 s) (E36 p0 s) (n + 1) = T36 B c48 c47 p0 (fun s => aloop tau B gl0 X36 (ent 48 (e48 c48) (ent 47 (e47 c47) (gnil))) ow [] Try.f36 k (I36 s) (E36 p0 s) n) (fun y => k (.c (.bool y)) []) (some s)
  | .l0 v0_1 v0_2 => by kernel_rfl
theorem nt36 {R R' : Type} (B : Ops) (c48 : List ty66.den → Option (Bool)) (c47 : List ty66.den → Option ((List ty22.den))) (p0 : List ty66.den) (again : S36 → Option R) (again' : S36 → Option R') (k0 : (Bool) → Option R') (k : R' → Option R) (h : ∀ s, again s = ob (again' s) k) : ∀ s, T36 B c48 c47 p0 again (fun y => ob (k0 y) k) s = ob (T36 B c48 c47 p0 again' k0 s) k
  | none => by unfold T36; repeat' first | exact rfl | exact h _ | apply nat_cond | (apply nat_ob; intro)
  | some (.l0 v0_1 v0_2) => by unfold T36; repeat' first | exact rfl | exact h _ | apply nat_cond | (apply nat_ob; intro)
def R36 (c48 : List ty66.den → Option (Bool)) (c47 : List ty66.den → Option ((List ty22.den))) (p0 : List ty66.den) : Nat → S36 → Option (Bool)
  | 0, _ => none
  | n + 1, s => T36 Ops.std c48 c47 p0 (R36 c48 c47 p0 n) some (some s)
theorem rr36 {R : Type} (c48 : List ty66.den → Option (Bool)) (c47 : List ty66.den → Option ((List ty22.den))) (p0 : List ty66.den) (k : AV → Objs → Option R) : ∀ (n : Nat) (s : S36), aloop tau Ops.std gl0 X36 (ent 48 (e48 c48) (ent 47 (e47 c47) (gnil))) ow [] Try.f36 k (I36 s) (E36 p0 s) n = ob (R36 c48 c47 p0 n s) (fun y => k (.c (.bool y)) [])
  | 0, s => by cases s <;> rfl
  | n + 1, s => by rw [el36]; exact nt36 Ops.std c48 c47 p0 _ _ some (fun y => k (.c (.bool y)) []) (rr36 c48 c47 p0 k n) (some s)
def F36 (c48 : List ty66.den → Option (Bool)) (c47 : List ty66.den → Option ((List ty22.den))) (p0 : List ty66.den) : Option (Bool) := T36 Ops.std c48 c47 p0 (R36 c48 c47 p0 1000000) some none
theorem fo36 {R : Type} (c48 : List ty66.den → Option (Bool)) (c47 : List ty66.den → Option ((List ty22.den))) (p0 : List ty66.den) (k : AV → Objs → Option R) : afun tau Ops.std gl0 X36 (ent 48 (e48 c48) (ent 47 (e47 c47) (gnil))) ow Try.f36 [.c (.list 66 ty66 p0)] [] k 1000000 = ob (F36 c48 c47 p0) (fun y => k (.c (.bool y)) []) := by rw [eq36]; exact nt36 Ops.std c48 c47 p0 _ _ some (fun y => k (.c (.bool y)) []) (rr36 c48 c47 p0 k 1000000) none
def e36 {R : Type} (c : List ty66.den → Option (Bool)) : Ent R := fun args objs k =>
  oCons args fun a0 l0 => oC a0 fun x0 => cList 66 ty66 x0 fun p0 => oNil l0 <| oNilO objs <| ob (c p0) fun y => k (.c (.bool y)) []
abbrev Sp36 (c : List ty66.den → Option (Bool)) : Prop := ∀ (p0 : List ty66.den) (y : Bool), c p0 = some y → Spec Try.prog gl0 36 [.c (.list 66 ty66 p0)] [] (.c (.bool y)) []
theorem ek36 {R : Type} {c : List ty66.den → Option (Bool)} (hs : Sp36 c) : EOk 36 (e36 (R := R) c) := fun args objs k r h => by
  unfold e36 at h
  obtain ⟨a0, l0, rfl, q1⟩ := oCons_some h
  obtain ⟨x0, rfl, q2⟩ := oC_some q1
  obtain ⟨p0, rfl, q3⟩ := cList_some q2
  obtain ⟨rfl, q4⟩ := oNil_some q3
  obtain ⟨rfl, q5⟩ := oNilO_some q4
  exact eok_of (hs p0) q5
theorem sf36 {c48 : List ty66.den → Option (Bool)} {c47 : List ty66.den → Option ((List ty22.den))} (h48 : Sp48 c48) (h47 : Sp47 c47) : Sp36 (F36 c48 c47) := fun p0 y hy => by
  refine spec_of (G := ent 48 (e48 c48) (ent 47 (e47 c47) (gnil))) (ent_ok (ek48 h48) (ent_ok (ek47 h47) (gnil_ok))) 1000000 (fn := Try.f36) (by kernel_rfl) (by kernel_rfl) (X := X36) (by kernel_rfl) ?_
  rw [fo36, hy]
  rfl
noncomputable def M36 : List ty66.den → Option (Bool) := F36 M48 M47
theorem sm36 : Sp36 M36 := sf36 sm48 sm47
def e67 {R : Type} (c : List ty66.den → List ty22.den → Int → Bool → List ty66.den → Option ((List ty66.den))) : Ent R := fun args objs k =>
  oCons args fun a0 l0 => oC a0 fun x0 => cList 66 ty66 x0 fun p0 => oCons l0 fun a1 l1 => oC a1 fun x1 => cList 22 ty22 x1 fun p1 => oCons l1 fun a2 l2 => oC a2 fun x2 => cInt .i64 x2 fun p2 => oCons l2 fun a3 l3 => oC a3 fun x3 => cBool x3 fun p3 => oCons l3 fun a4 l4 => oC a4 fun x4 => cOwn 4 x4 <| oNil l4 <| oRow 4 66 ty66 objs fun p4 o0 => oNilO o0 <| ob (c p0 p1 p2 p3 p4) fun y => k (.c (.own 500)) [(500, .row 66 ty66 y)]
abbrev Sp67 (c : List ty66.den → List ty22.den → Int → Bool → List ty66.den → Option ((List ty66.den))) : Prop := ∀ (p0 : List ty66.den) (p1 : List ty22.den) (p2 : Int) (p3 : Bool) (p4 : List ty66.den) (y : (List ty66.den)), c p0 p1 p2 p3 p4 = some y → Spec Try.prog gl0 67 [.c (.list 66 ty66 p0), .c (.list 22 ty22 p1), .c (.int .i64 p2), .c (.bool p3), .c (.own 4)] [(4, .row 66 ty66 p4)] (.c (.own 500)) [(500, .row 66 ty66 y)]
theorem ek67 {R : Type} {c : List ty66.den → List ty22.den → Int → Bool → List ty66.den → Option ((List ty66.den))} (hs : Sp67 c) : EOk 67 (e67 (R := R) c) := fun args objs k r h => by
  unfold e67 at h
  obtain ⟨a0, l0, rfl, q1⟩ := oCons_some h
  obtain ⟨x0, rfl, q2⟩ := oC_some q1
  obtain ⟨p0, rfl, q3⟩ := cList_some q2
  obtain ⟨a1, l1, rfl, q4⟩ := oCons_some q3
  obtain ⟨x1, rfl, q5⟩ := oC_some q4
  obtain ⟨p1, rfl, q6⟩ := cList_some q5
  obtain ⟨a2, l2, rfl, q7⟩ := oCons_some q6
  obtain ⟨x2, rfl, q8⟩ := oC_some q7
  obtain ⟨p2, rfl, q9⟩ := cInt_some q8
  obtain ⟨a3, l3, rfl, q10⟩ := oCons_some q9
  obtain ⟨x3, rfl, q11⟩ := oC_some q10
  obtain ⟨p3, rfl, q12⟩ := cBool_some q11
  obtain ⟨a4, l4, rfl, q13⟩ := oCons_some q12
  obtain ⟨x4, rfl, q14⟩ := oC_some q13
  obtain ⟨rfl, q15⟩ := cOwn_some q14
  obtain ⟨rfl, q16⟩ := oNil_some q15
  obtain ⟨p4, o0, rfl, q17⟩ := oRow_some q16
  obtain ⟨rfl, q18⟩ := oNilO_some q17
  exact eok_of (hs p0 p1 p2 p3 p4) q18

/-! ### 67: lariat/lariatref13.push -/
def X67 : Aux := ⟨[(1000010, [0, 1, 2, 3, 5, 6, 7, 8, 9, 10, 12, 13, 14, 15, 16, 17, 18, 19, 20, 21, 22, 23, 24, 25, 26, 27, 28, 29, 30, 31, 32, 33, 34, 35, 36, 37, 38, 39, 40, 41, 42, 43, 44, 45, 46, 47, 48, 49, 50, 51, 52, 53, 54, 55, 56, 57, 58, 59, 60, 61, 62, 63, 64, 65, 66, 67, 68, 69, 70, 71, 72, 73, 74, 75, 76, 77, 78, 79, 80, 81, 82, 83, 84, 85, 86, 87, 88, 89, 90, 91, 92, 93, 94, 95, 96, 97, 98, 99, 100, 101, 102, 103, 104, 105, 106, 107, 108, 109, 110, 111, 112, 113, 114, 115, 116, 117, 118, 119, 120, 121, 122, 123, 124, 125, 126, 127, 128, 129, 130, 131, 132, 133, 134, 135, 136, 137, 138, 139, 140, 141, 142, 143, 144, 145, 146, 147, 148, 149, 150, 151, 152, 153, 154, 155, 156]), (1000015, [0, 1, 2, 3, 5, 6, 7, 8, 9, 10, 11, 12, 13, 14, 15, 16, 17, 18, 19, 20, 21, 22, 23, 24, 25, 26, 27, 28, 29, 30, 31, 32, 33, 34, 35, 36, 37, 38, 39, 40, 41, 42, 43, 44, 45, 46, 47, 48, 49, 50, 51, 52, 53, 54, 55, 56, 57, 58, 59, 60, 61, 62, 63, 64, 65, 66, 67, 68, 69, 70, 71, 72, 73, 74, 75, 76, 77, 78, 79, 80, 81, 82, 83, 84, 85, 86, 87, 88, 89, 90, 91, 92, 93, 94, 95, 96, 97, 98, 99, 100, 101, 102, 103, 104, 105, 106, 107, 108, 109, 110, 111, 112, 113, 114, 115, 116, 117, 118, 119, 120, 121, 122, 123, 124, 125, 126, 127, 128, 129, 130, 131, 132, 133, 134, 135, 136, 137, 138, 139, 140, 141, 142, 143, 144, 145, 146, 147, 148, 149, 150, 151, 152, 153, 154, 155, 156]), (1000026, [2, 5, 6, 7, 8, 9, 10, 14, 15, 16, 17, 18, 19, 20, 21, 22, 23, 24, 25, 26, 27, 28, 29, 30, 31, 32, 33, 34, 35, 36, 37, 38, 39, 40, 41, 42, 43, 44, 45, 46, 47, 48, 49, 50, 51, 52, 53, 54, 55, 56, 57, 58, 59, 60, 61, 62, 63, 64, 65, 66, 67, 68, 69, 70, 71, 72, 73, 74, 75, 76, 77, 78, 79, 80, 81, 82, 83, 84, 85, 86, 87, 88, 89, 90, 91, 92, 93, 94, 95, 96, 97, 98, 99, 100, 101, 102, 103, 104, 105, 106, 107, 108, 109, 110, 111, 112, 113, 114, 115, 116, 117, 118, 119, 120, 121, 122, 123, 124, 125, 126, 127, 128, 129, 130, 131, 132, 133, 134, 135, 136, 137, 138, 139, 140, 141, 142, 143, 144, 145, 146, 147, 148, 149, 150, 151, 152, 153, 154, 155, 156]), (1000033, [2, 5, 6, 7, 8, 9, 10, 13, 15, 16, 17, 18, 19, 20, 21, 22, 23, 24, 25, 26, 27, 28, 29, 30, 31, 32, 33, 34, 35, 36, 37, 38, 39, 40, 41, 42, 43, 44, 45, 46, 47, 48, 49, 50, 51, 52, 53, 54, 55, 56, 57, 58, 59, 60, 61, 62, 63, 64, 65, 66, 67, 68, 69, 70, 71, 72, 73, 74, 75, 76, 77, 78, 79, 80, 81, 82, 83, 84, 85, 86, 87, 88, 89, 90, 91, 92, 93, 94, 95, 96, 97, 98, 99, 100, 101, 102, 103, 104, 105, 106, 107, 108, 109, 110, 111, 112, 113, 114, 115, 116, 117, 118, 119, 120, 121, 122, 123, 124, 125, 126, 127, 128, 129, 130, 131, 132, 133, 134, 135, 136, 137, 138, 139, 140, 141, 142, 143, 144, 145, 146, 147, 148, 149, 150, 151, 152, 153, 154, 155, 156]), (1000038, [0, 1, 2, 5, 6, 7, 8, 9, 10, 12, 13, 14, 15, 16, 17, 18, 19, 20, 21, 22, 23, 24, 25, 26, 27, 28, 29, 30, 31, 32, 33, 34, 35, 36, 37, 38, 39, 40, 41, 42, 43, 44, 45, 46, 47, 48, 49, 50, 51, 52, 53, 54, 55, 56, 57, 58, 59, 60, 61, 62, 63, 64, 65, 66, 67, 68, 69, 70, 71, 72, 73, 74, 75, 76, 77, 78, 79, 80, 81, 82, 83, 84, 85, 86, 87, 88, 89, 90, 91, 92, 93, 94, 95, 96, 97, 98, 99, 100, 101, 102, 103, 104, 105, 106, 107, 108, 109, 110, 111, 112, 113, 114, 115, 116, 117, 118, 119, 120, 121, 122, 123, 124, 125, 126, 127, 128, 129, 130, 131, 132, 133, 134, 135, 136, 137, 138, 139, 140, 141, 142, 143, 144, 145, 146, 147, 148, 149, 150, 151, 152, 153, 154, 155, 156])], [(26, .seq [0, 1, 2, 3, 4, 5, 6, 7, 8, 12, 13] (.alt (.seq [9] (.alt (.seq [10] (.alt (.lin [11, 14, 15, 16]) (.lin [14, 11, 15, 16]))) (.lin [14, 10, 11, 15, 16]))) (.lin [14, 9, 10, 11, 15, 16]))), (33, .seq [0, 1, 2, 3, 4, 5, 6, 7, 8, 12, 13] (.alt (.seq [9] (.alt (.seq [10] (.alt (.lin [11, 14, 15, 16]) (.lin [14, 11, 15, 16]))) (.lin [14, 10, 11, 15, 16]))) (.lin [14, 9, 10, 11, 15, 16])))]⟩
inductive S67 where
  | l1010 (v1010_0 : Int)
  | l1015 (v1015_0 : List ty66.den)
  | l1026 (v1026_3 : Int) (v1026_4 : List ty3.den) (v1026_5 : Int)
  | l1033 (v1033_3 : Int) (v1033_4 : List ty3.den) (v1033_5 : Int)
  | l1038 (v1038_1 : Int) (v1038_2 : List ty66.den)
def T67 {R : Type} (B : Ops) (c67 : List ty66.den → List ty22.den → Int → Bool → List ty66.den → Option ((List ty66.den))) (c82 : Int → Option (Int)) (p0 : List ty66.den) (p1 : List ty22.den) (p2 : Int) (p3 : Bool) (p4 : List ty66.den) (again : S67 → Option R) (k : ((List ty66.den)) → Option R) : Option S67 → Option R
  | none =>
    cond (Ops.inb B p2 (List.length p0))
     (
      cond (Ops.inb B p2 (List.length p1))
       (
        cond (Ops.eq B (Prod.fst (List.getD p0 (Int.toNat p2) (Ty.dflt ty66))) (1))
         (
          cond (p3)
           (
            again (.l1010 (IntKind.wrap IntKind.i64 (3 - Prod.fst (List.getD p0 (Int.toNat p2) (Ty.dflt ty66))))))
           (
            again (.l1010 (Prod.fst (List.getD p0 (Int.toNat p2) (Ty.dflt ty66))))))
         (
          cond (Ops.eq B (Prod.fst (List.getD p0 (Int.toNat p2) (Ty.dflt ty66))) (2))
           (
            cond (p3)
             (
              again (.l1010 (IntKind.wrap IntKind.i64 (3 - Prod.fst (List.getD p0 (Int.toNat p2) (Ty.dflt ty66))))))
             (
              again (.l1010 (Prod.fst (List.getD p0 (Int.toNat p2) (Ty.dflt ty66))))))
           (
            cond (Ops.eq B (Prod.fst (List.getD p0 (Int.toNat p2) (Ty.dflt ty66))) (3))
             (
              cond (Ops.inb B p2 (List.length p0))
               (
                cond (Ops.lim B (List.length p4 + List.length ((Prod.fst (List.getD p0 (Int.toNat p2) (Ty.dflt ty66)), Prod.snd (List.getD p0 (Int.toNat p2) (Ty.dflt ty66))) :: mt (Ty.den (Ty.pair (Ty.int IntKind.i64) (Ty.list (98) (Ty.pair (Ty.int IntKind.i64) (Ty.pair (Ty.int IntKind.i64) (Ty.pair Ty.str Ty.str)))))))) (32))
                 (
                  cond (p3)
                   (
                    cond (Ops.lim B (List.length (p4 ++ (Prod.fst (List.getD p0 (Int.toNat p2) (Ty.dflt ty66)), Prod.snd (List.getD p0 (Int.toNat p2) (Ty.dflt ty66))) :: mt (Ty.den (Ty.pair (Ty.int IntKind.i64) (Ty.list (98) (Ty.pair (Ty.int IntKind.i64) (Ty.pair (Ty.int IntKind.i64) (Ty.pair Ty.str Ty.str))))))) + List.length ((4, mt (Ty.den (Ty.pair (Ty.int IntKind.i64) (Ty.pair (Ty.int IntKind.i64) (Ty.pair Ty.str Ty.str))))) :: mt (Ty.den (Ty.pair (Ty.int IntKind.i64) (Ty.list (98) (Ty.pair (Ty.int IntKind.i64) (Ty.pair (Ty.int IntKind.i64) (Ty.pair Ty.str Ty.str)))))))) (32))
                     (
                      again (.l1015 (p4 ++ (Prod.fst (List.getD p0 (Int.toNat p2) (Ty.dflt ty66)), Prod.snd (List.getD p0 (Int.toNat p2) (Ty.dflt ty66))) :: mt (Ty.den (Ty.pair (Ty.int IntKind.i64) (Ty.list (98) (Ty.pair (Ty.int IntKind.i64) (Ty.pair (Ty.int IntKind.i64) (Ty.pair Ty.str Ty.str)))))) ++ (4, mt (Ty.den (Ty.pair (Ty.int IntKind.i64) (Ty.pair (Ty.int IntKind.i64) (Ty.pair Ty.str Ty.str))))) :: mt (Ty.den (Ty.pair (Ty.int IntKind.i64) (Ty.list (98) (Ty.pair (Ty.int IntKind.i64) (Ty.pair (Ty.int IntKind.i64) (Ty.pair Ty.str Ty.str)))))))))
                     (
                      none))
                   (
                    again (.l1015 (p4 ++ (Prod.fst (List.getD p0 (Int.toNat p2) (Ty.dflt ty66)), Prod.snd (List.getD p0 (Int.toNat p2) (Ty.dflt ty66))) :: mt (Ty.den (Ty.pair (Ty.int IntKind.i64) (Ty.list (98) (Ty.pair (Ty.int IntKind.i64) (Ty.pair (Ty.int IntKind.i64) (Ty.pair Ty.str Ty.str))))))))))
                 (
                  none))
               (
                none))
             (
              cond (Ops.eq B (Prod.fst (List.getD p0 (Int.toNat p2) (Ty.dflt ty66))) (4))
               (
                cond (Ops.inb B (0) (List.length (List.getD p1 (Int.toNat p2) (Ty.dflt ty22))))
                 (
                  ob (c67 p0 p1 (List.getD (List.getD p1 (Int.toNat p2) (Ty.dflt ty22)) (Int.toNat (0)) (Ty.dflt (Ty.int IntKind.i64))) (!p3) p4) fun y0 =>
                  k y0)
                 (
                  none))
               (
                cond (Ops.eq B (Prod.fst (List.getD p0 (Int.toNat p2) (Ty.dflt ty66))) (8))
                 (
                  cond (Ops.inb B (0) (List.length (List.getD p1 (Int.toNat p2) (Ty.dflt ty22))))
                   (
                    ob (c67 p0 p1 (List.getD (List.getD p1 (Int.toNat p2) (Ty.dflt ty22)) (Int.toNat (0)) (Ty.dflt (Ty.int IntKind.i64))) p3 p4) fun y0 =>
                    cond (Ops.lim B (List.length y0 + List.length ((Prod.fst (List.getD p0 (Int.toNat p2) (Ty.dflt ty66)), mt (Ty.den (Ty.pair (Ty.int IntKind.i64) (Ty.pair (Ty.int IntKind.i64) (Ty.pair Ty.str Ty.str))))) :: mt (Ty.den (Ty.pair (Ty.int IntKind.i64) (Ty.list (98) (Ty.pair (Ty.int IntKind.i64) (Ty.pair (Ty.int IntKind.i64) (Ty.pair Ty.str Ty.str)))))))) (32))
                     (
                      k (y0 ++ (Prod.fst (List.getD p0 (Int.toNat p2) (Ty.dflt ty66)), mt (Ty.den (Ty.pair (Ty.int IntKind.i64) (Ty.pair (Ty.int IntKind.i64) (Ty.pair Ty.str Ty.str))))) :: mt (Ty.den (Ty.pair (Ty.int IntKind.i64) (Ty.list (98) (Ty.pair (Ty.int IntKind.i64) (Ty.pair (Ty.int IntKind.i64) (Ty.pair Ty.str Ty.str))))))))
                     (
                      none))
                   (
                    none))
                 (
                  cond (Ops.eq B (Prod.fst (List.getD p0 (Int.toNat p2) (Ty.dflt ty66))) (11))
                   (
                    cond (p3)
                     (
                      again (.l1026 10 (List.getD p1 (Int.toNat p2) (Ty.dflt ty22)) 2))
                     (
                      again (.l1026 9 (List.getD p1 (Int.toNat p2) (Ty.dflt ty22)) 1)))
                   (
                    cond (Ops.eq B (Prod.fst (List.getD p0 (Int.toNat p2) (Ty.dflt ty66))) (12))
                     (
                      cond (p3)
                       (
                        again (.l1033 9 (List.getD p1 (Int.toNat p2) (Ty.dflt ty22)) 1))
                       (
                        again (.l1033 10 (List.getD p1 (Int.toNat p2) (Ty.dflt ty22)) 2)))
                     (
                      cond (Ops.eq B (Prod.fst (List.getD p0 (Int.toNat p2) (Ty.dflt ty66))) (7))
                       (
                        cond (Ops.inb B (0) (List.length (List.getD p1 (Int.toNat p2) (Ty.dflt ty22))))
                         (
                          ob (c67 p0 p1 (List.getD (List.getD p1 (Int.toNat p2) (Ty.dflt ty22)) (Int.toNat (0)) (Ty.dflt (Ty.int IntKind.i64))) (!p3) p4) fun y0 =>
                          cond (Ops.inb B (1) (List.length (List.getD p1 (Int.toNat p2) (Ty.dflt ty22))))
                           (
                            ob (c67 p0 p1 (List.getD (List.getD p1 (Int.toNat p2) (Ty.dflt ty22)) (Int.toNat (1)) (Ty.dflt (Ty.int IntKind.i64))) p3 y0) fun y1 =>
                            again (.l1038 6 y1))
                           (
                            none))
                         (
                          none))
                       (
                        cond (Ops.inb B (0) (List.length (List.getD p1 (Int.toNat p2) (Ty.dflt ty22))))
                         (
                          ob (c67 p0 p1 (List.getD (List.getD p1 (Int.toNat p2) (Ty.dflt ty22)) (Int.toNat (0)) (Ty.dflt (Ty.int IntKind.i64))) p3 p4) fun y0 =>
                          cond (Ops.inb B (1) (List.length (List.getD p1 (Int.toNat p2) (Ty.dflt ty22))))
                           (
                            ob (c67 p0 p1 (List.getD (List.getD p1 (Int.toNat p2) (Ty.dflt ty22)) (Int.toNat (1)) (Ty.dflt (Ty.int IntKind.i64))) p3 y0) fun y1 =>
                            again (.l1038 (Prod.fst (List.getD p0 (Int.toNat p2) (Ty.dflt ty66))) y1))
                           (
                            none))
                         (
                          none))))))))))
       (
        none))
     (
      none)
  | some (.l1010 v1010_0) =>
    cond (Ops.lim B (List.length p4 + List.length ((v1010_0, mt (Ty.den (Ty.pair (Ty.int IntKind.i64) (Ty.pair (Ty.int IntKind.i64) (Ty.pair Ty.str Ty.str))))) :: mt (Ty.den (Ty.pair (Ty.int IntKind.i64) (Ty.list (98) (Ty.pair (Ty.int IntKind.i64) (Ty.pair (Ty.int IntKind.i64) (Ty.pair Ty.str Ty.str)))))))) (32))
     (
      k (p4 ++ (v1010_0, mt (Ty.den (Ty.pair (Ty.int IntKind.i64) (Ty.pair (Ty.int IntKind.i64) (Ty.pair Ty.str Ty.str))))) :: mt (Ty.den (Ty.pair (Ty.int IntKind.i64) (Ty.list (98) (Ty.pair (Ty.int IntKind.i64) (Ty.pair (Ty.int IntKind.i64) (Ty.pair Ty.str Ty.str))))))))
     (
      none)
  | some (.l1015 v1015_0) =>
    k v1015_0
  | some (.l1026 v1026_3 v1026_4 v1026_5) =>
    cond (Ops.inb B (0) (List.length v1026_4))
     (
      cond (Ops.lim B (List.length p4 + List.length ((v1026_5, mt (Ty.den (Ty.pair (Ty.int IntKind.i64) (Ty.pair (Ty.int IntKind.i64) (Ty.pair Ty.str Ty.str))))) :: mt (Ty.den (Ty.pair (Ty.int IntKind.i64) (Ty.list (98) (Ty.pair (Ty.int IntKind.i64) (Ty.pair (Ty.int IntKind.i64) (Ty.pair Ty.str Ty.str)))))))) (32))
       (
        ob (c67 p0 p1 (List.getD v1026_4 (Int.toNat (0)) (Ty.dflt ty3)) p3 (p4 ++ (v1026_5, mt (Ty.den (Ty.pair (Ty.int IntKind.i64) (Ty.pair (Ty.int IntKind.i64) (Ty.pair Ty.str Ty.str))))) :: mt (Ty.den (Ty.pair (Ty.int IntKind.i64) (Ty.list (98) (Ty.pair (Ty.int IntKind.i64) (Ty.pair (Ty.int IntKind.i64) (Ty.pair Ty.str Ty.str)))))))) fun y0 =>
        cond (Ops.lim B (List.length y0 + List.length ((v1026_3, mt (Ty.den (Ty.pair (Ty.int IntKind.i64) (Ty.pair (Ty.int IntKind.i64) (Ty.pair Ty.str Ty.str))))) :: mt (Ty.den (Ty.pair (Ty.int IntKind.i64) (Ty.list (98) (Ty.pair (Ty.int IntKind.i64) (Ty.pair (Ty.int IntKind.i64) (Ty.pair Ty.str Ty.str)))))))) (32))
         (
          k (y0 ++ (v1026_3, mt (Ty.den (Ty.pair (Ty.int IntKind.i64) (Ty.pair (Ty.int IntKind.i64) (Ty.pair Ty.str Ty.str))))) :: mt (Ty.den (Ty.pair (Ty.int IntKind.i64) (Ty.list (98) (Ty.pair (Ty.int IntKind.i64) (Ty.pair (Ty.int IntKind.i64) (Ty.pair Ty.str Ty.str))))))))
         (
          none))
       (
        none))
     (
      none)
  | some (.l1033 v1033_3 v1033_4 v1033_5) =>
    cond (Ops.inb B (0) (List.length v1033_4))
     (
      cond (Ops.lim B (List.length p4 + List.length ((v1033_5, mt (Ty.den (Ty.pair (Ty.int IntKind.i64) (Ty.pair (Ty.int IntKind.i64) (Ty.pair Ty.str Ty.str))))) :: mt (Ty.den (Ty.pair (Ty.int IntKind.i64) (Ty.list (98) (Ty.pair (Ty.int IntKind.i64) (Ty.pair (Ty.int IntKind.i64) (Ty.pair Ty.str Ty.str)))))))) (32))
       (
        ob (c67 p0 p1 (List.getD v1033_4 (Int.toNat (0)) (Ty.dflt ty3)) p3 (p4 ++ (v1033_5, mt (Ty.den (Ty.pair (Ty.int IntKind.i64) (Ty.pair (Ty.int IntKind.i64) (Ty.pair Ty.str Ty.str))))) :: mt (Ty.den (Ty.pair (Ty.int IntKind.i64) (Ty.list (98) (Ty.pair (Ty.int IntKind.i64) (Ty.pair (Ty.int IntKind.i64) (Ty.pair Ty.str Ty.str)))))))) fun y0 =>
        cond (Ops.lim B (List.length y0 + List.length ((v1033_3, mt (Ty.den (Ty.pair (Ty.int IntKind.i64) (Ty.pair (Ty.int IntKind.i64) (Ty.pair Ty.str Ty.str))))) :: mt (Ty.den (Ty.pair (Ty.int IntKind.i64) (Ty.list (98) (Ty.pair (Ty.int IntKind.i64) (Ty.pair (Ty.int IntKind.i64) (Ty.pair Ty.str Ty.str)))))))) (32))
         (
          k (y0 ++ (v1033_3, mt (Ty.den (Ty.pair (Ty.int IntKind.i64) (Ty.pair (Ty.int IntKind.i64) (Ty.pair Ty.str Ty.str))))) :: mt (Ty.den (Ty.pair (Ty.int IntKind.i64) (Ty.list (98) (Ty.pair (Ty.int IntKind.i64) (Ty.pair (Ty.int IntKind.i64) (Ty.pair Ty.str Ty.str))))))))
         (
          none))
       (
        none))
     (
      none)
  | some (.l1038 v1038_1 v1038_2) =>
    cond (p3)
     (
      ob (c82 v1038_1) fun y0 =>
      cond (Ops.lim B (List.length v1038_2 + List.length ((y0, mt (Ty.den (Ty.pair (Ty.int IntKind.i64) (Ty.pair (Ty.int IntKind.i64) (Ty.pair Ty.str Ty.str))))) :: mt (Ty.den (Ty.pair (Ty.int IntKind.i64) (Ty.list (98) (Ty.pair (Ty.int IntKind.i64) (Ty.pair (Ty.int IntKind.i64) (Ty.pair Ty.str Ty.str)))))))) (32))
       (
        k (v1038_2 ++ (y0, mt (Ty.den (Ty.pair (Ty.int IntKind.i64) (Ty.pair (Ty.int IntKind.i64) (Ty.pair Ty.str Ty.str))))) :: mt (Ty.den (Ty.pair (Ty.int IntKind.i64) (Ty.list (98) (Ty.pair (Ty.int IntKind.i64) (Ty.pair (Ty.int IntKind.i64) (Ty.pair Ty.str Ty.str))))))))
       (
        none))
     (
      cond (Ops.lim B (List.length v1038_2 + List.length ((v1038_1, mt (Ty.den (Ty.pair (Ty.int IntKind.i64) (Ty.pair (Ty.int IntKind.i64) (Ty.pair Ty.str Ty.str))))) :: mt (Ty.den (Ty.pair (Ty.int IntKind.i64) (Ty.list (98) (Ty.pair (Ty.int IntKind.i64) (Ty.pair (Ty.int IntKind.i64) (Ty.pair Ty.str Ty.str)))))))) (32))
       (
        k (v1038_2 ++ (v1038_1, mt (Ty.den (Ty.pair (Ty.int IntKind.i64) (Ty.pair (Ty.int IntKind.i64) (Ty.pair Ty.str Ty.str))))) :: mt (Ty.den (Ty.pair (Ty.int IntKind.i64) (Ty.list (98) (Ty.pair (Ty.int IntKind.i64) (Ty.pair (Ty.int IntKind.i64) (Ty.pair Ty.str Ty.str))))))))
       (
        none))
def E67 (p0 : List ty66.den) (p1 : List ty22.den) (p2 : Int) (p3 : Bool) (p4 : List ty66.den) : S67 → List AV × Objs
  | .l1010 v1010_0 => (mk 157 [(4, .c (.own 4)), (11, .c (.int .i64 v1010_0))], [(4, .row 66 ty66 p4)])
  | .l1015 v1015_0 => (mk 157 [(4, .c (.own 4))], [(4, .row 66 ty66 v1015_0)])
  | .l1026 v1026_3 v1026_4 v1026_5 => (mk 157 [(0, .c (.list 66 ty66 p0)), (1, .c (.list 22 ty22 p1)), (3, .c (.bool p3)), (4, .c (.own 4)), (11, .c (.int .i64 v1026_3)), (12, .c (.list 3 ty3 v1026_4)), (13, .c (.int .i64 v1026_5))], [(4, .row 66 ty66 p4)])
  | .l1033 v1033_3 v1033_4 v1033_5 => (mk 157 [(0, .c (.list 66 ty66 p0)), (1, .c (.list 22 ty22 p1)), (3, .c (.bool p3)), (4, .c (.own 4)), (11, .c (.int .i64 v1033_3)), (12, .c (.list 3 ty3 v1033_4)), (14, .c (.int .i64 v1033_5))], [(4, .row 66 ty66 p4)])
  | .l1038 v1038_1 v1038_2 => (mk 157 [(3, .c (.bool p3)), (4, .c (.own 4)), (11, .c (.int .i64 v1038_1))], [(4, .row 66 ty66 v1038_2)])
def I67 : S67 → Nat
  | .l1010 _ => 1010
  | .l1015 _ => 1015
  | .l1026 _ _ _ => 1026
  | .l1033 _ _ _ => 1033
  | .l1038 _ _ => 1038
noncomputable def Ta67 {R : Type} (B : Ops) (c67 : List ty66.den → List ty22.den → Int → Bool → List ty66.den → Option ((List ty66.den))) (c82 : Int → Option (Int)) (p0 : List ty66.den) (p1 : List ty22.den) (p2 : Int) (p3 : Bool) (p4 : List ty66.den) (again : S67 → Option R) (k : ((List ty66.den)) → Option R) : Option S67 → Option R
  | none =>
    cond (Ops.inb B p2 (List.length p0))
     (
      cond (Ops.inb B p2 (List.length p1))
       (
        cond (Ops.eq B (Prod.fst (List.getD p0 (Int.toNat p2) (Ty.dflt ty66))) (1))
         (
          cond (p3)
           (
            again (.l1010 (IntKind.wrap IntKind.i64 (3 - Prod.fst (List.getD p0 (Int.toNat p2) (Ty.dflt ty66))))))
           (
            again (.l1010 (Prod.fst (List.getD p0 (Int.toNat p2) (Ty.dflt ty66))))))
         (
          cond (Ops.eq B (Prod.fst (List.getD p0 (Int.toNat p2) (Ty.dflt ty66))) (2))
           (
            cond (p3)
             (
              again (.l1010 (IntKind.wrap IntKind.i64 (3 - Prod.fst (List.getD p0 (Int.toNat p2) (Ty.dflt ty66))))))
             (
              again (.l1010 (Prod.fst (List.getD p0 (Int.toNat p2) (Ty.dflt ty66))))))
           (
            cond (Ops.eq B (Prod.fst (List.getD p0 (Int.toNat p2) (Ty.dflt ty66))) (3))
             (
              cond (Ops.inb B p2 (List.length p0))
               (
                cond (Ops.lim B (List.length p4 + List.length ((Prod.fst (List.getD p0 (Int.toNat p2) (Ty.dflt ty66)), Prod.snd (List.getD p0 (Int.toNat p2) (Ty.dflt ty66))) :: mt (Ty.den (Ty.pair (Ty.int IntKind.i64) (Ty.list (98) (Ty.pair (Ty.int IntKind.i64) (Ty.pair (Ty.int IntKind.i64) (Ty.pair Ty.str Ty.str)))))))) (32))
                 (
                  cond (p3)
                   (
                    cond (Ops.lim B (List.length (p4 ++ (Prod.fst (List.getD p0 (Int.toNat p2) (Ty.dflt ty66)), Prod.snd (List.getD p0 (Int.toNat p2) (Ty.dflt ty66))) :: mt (Ty.den (Ty.pair (Ty.int IntKind.i64) (Ty.list (98) (Ty.pair (Ty.int IntKind.i64) (Ty.pair (Ty.int IntKind.i64) (Ty.pair Ty.str Ty.str))))))) + List.length ((4, mt (Ty.den (Ty.pair (Ty.int IntKind.i64) (Ty.pair (Ty.int IntKind.i64) (Ty.pair Ty.str Ty.str))))) :: mt (Ty.den (Ty.pair (Ty.int IntKind.i64) (Ty.list (98) (Ty.pair (Ty.int IntKind.i64) (Ty.pair (Ty.int IntKind.i64) (Ty.pair Ty.str Ty.str)))))))) (32))
                     (
                      again (.l1015 (p4 ++ (Prod.fst (List.getD p0 (Int.toNat p2) (Ty.dflt ty66)), Prod.snd (List.getD p0 (Int.toNat p2) (Ty.dflt ty66))) :: mt (Ty.den (Ty.pair (Ty.int IntKind.i64) (Ty.list (98) (Ty.pair (Ty.int IntKind.i64) (Ty.pair (Ty.int IntKind.i64) (Ty.pair Ty.str Ty.str)))))) ++ (4, mt (Ty.den (Ty.pair (Ty.int IntKind.i64) (Ty.pair (Ty.int IntKind.i64) (Ty.pair Ty.str Ty.str))))) :: mt (Ty.den (Ty.pair (Ty.int IntKind.i64) (Ty.list (98) (Ty.pair (Ty.int IntKind.i64) (Ty.pair (Ty.int IntKind.i64) (Ty.pair Ty.str Ty.str)))))))))
                     (
                      none))
                   (
                    again (.l1015 (p4 ++ (Prod.fst (List.getD p0 (Int.toNat p2) (Ty.dflt ty66)), Prod.snd (List.getD p0 (Int.toNat p2) (Ty.dflt ty66))) :: mt (Ty.den (Ty.pair (Ty.int IntKind.i64) (Ty.list (98) (Ty.pair (Ty.int IntKind.i64) (Ty.pair (Ty.int IntKind.i64) (Ty.pair Ty.str Ty.str))))))))))
                 (
                  none))
               (
                none))
             (
              cond (Ops.eq B (Prod.fst (List.getD p0 (Int.toNat p2) (Ty.dflt ty66))) (4))
               (
                cond (Ops.inb B (0) (List.length (List.getD p1 (Int.toNat p2) (Ty.dflt ty22))))
                 (
                  ob (c67 p0 p1 (List.getD (List.getD p1 (Int.toNat p2) (Ty.dflt ty22)) (Int.toNat (0)) (Ty.dflt (Ty.int IntKind.i64))) (!p3) p4) fun y0 =>
                  k y0)
                 (
                  none))
               (
                cond (Ops.eq B (Prod.fst (List.getD p0 (Int.toNat p2) (Ty.dflt ty66))) (8))
                 (
                  cond (Ops.inb B (0) (List.length (List.getD p1 (Int.toNat p2) (Ty.dflt ty22))))
                   (
                    ob (c67 p0 p1 (List.getD (List.getD p1 (Int.toNat p2) (Ty.dflt ty22)) (Int.toNat (0)) (Ty.dflt (Ty.int IntKind.i64))) p3 p4) fun y0 =>
                    cond (Ops.lim B (List.length y0 + List.length ((Prod.fst (List.getD p0 (Int.toNat p2) (Ty.dflt ty66)), mt (Ty.den (Ty.pair (Ty.int IntKind.i64) (Ty.pair (Ty.int IntKind.i64) (Ty.pair Ty.str Ty.str))))) :: mt (Ty.den (Ty.pair (Ty.int IntKind.i64) (Ty.list (98) (Ty.pair (Ty.int IntKind.i64) (Ty.pair (Ty.int IntKind.i64) (Ty.pair Ty.str Ty.str)))))))) (32))
                     (
                      k (y0 ++ (Prod.fst (List.getD p0 (Int.toNat p2) (Ty.dflt ty66)), mt (Ty.den (Ty.pair (Ty.int IntKind.i64) (Ty.pair (Ty.int IntKind.i64) (Ty.pair Ty.str Ty.str))))) :: mt (Ty.den (Ty.pair (Ty.int IntKind.i64) (Ty.list (98) (Ty.pair (Ty.int IntKind.i64) (Ty.pair (Ty.int IntKind.i64) (Ty.pair Ty.str Ty.str))))))))
                     (
                      none))
                   (
                    none))
                 (
                  cond (Ops.eq B (Prod.fst (List.getD p0 (Int.toNat p2) (Ty.dflt ty66))) (11))
                   (
                    cond (p3)
                     (
                      again (.l1026 10 (List.getD p1 (Int.toNat p2) (Ty.dflt ty22)) 2))
                     (
                      again (.l1026 9 (List.getD p1 (Int.toNat p2) (Ty.dflt ty22)) 1)))
                   (
                    cond (Ops.eq B (Prod.fst (List.getD p0 (Int.toNat p2) (Ty.dflt ty66))) (12))
                     (
                      cond (p3)
                       (
                        again (.l1033 9 (List.getD p1 (Int.toNat p2) (Ty.dflt ty22)) 1))
                       (
                        again (.l1033 10 (List.getD p1 (Int.toNat p2) (Ty.dflt ty22)) 2)))
                     (
                      cond (Ops.eq B (Prod.fst (List.getD p0 (Int.toNat p2) (Ty.dflt ty66))) (7))
                       (
                        cond (Ops.inb B (0) (List.length (List.getD p1 (Int.toNat p2) (Ty.dflt ty22))))
                         (
                          ob (c67 p0 p1 (List.getD (List.getD p1 (Int.toNat p2) (Ty.dflt ty22)) (Int.toNat (0)) (Ty.dflt (Ty.int IntKind.i64))) (!p3) p4) fun y0 =>
                          cond (Ops.inb B (1) (List.length (List.getD p1 (Int.toNat p2) (Ty.dflt ty22))))
                           (
                            ob (c67 p0 p1 (List.getD (List.getD p1 (Int.toNat p2) (Ty.dflt ty22)) (Int.toNat (1)) (Ty.dflt (Ty.int IntKind.i64))) p3 y0) fun y1 =>
                            again (.l1038 6 y1))
                           (
                            none))
                         (
                          none))
                       (
                        cond (Ops.inb B (0) (List.length (List.getD p1 (Int.toNat p2) (Ty.dflt ty22))))
                         (
                          ob (c67 p0 p1 (List.getD (List.getD p1 (Int.toNat p2) (Ty.dflt ty22)) (Int.toNat (0)) (Ty.dflt (Ty.int IntKind.i64))) p3 p4) fun y0 =>
                          cond (Ops.inb B (1) (List.length (List.getD p1 (Int.toNat p2) (Ty.dflt ty22))))
                           (
                            ob (c67 p0 p1 (List.getD (List.getD p1 (Int.toNat p2) (Ty.dflt ty22)) (Int.toNat (1)) (Ty.dflt (Ty.int IntKind.i64))) p3 y0) fun y1 =>
                            again (.l1038 (Prod.fst (List.getD p0 (Int.toNat p2) (Ty.dflt ty66))) y1))
                           (
                            none))
                         (
                          none))))))))))
       (
        none))
     (
      none)
  | some (.l1010 v1010_0) =>
    cond (Ops.lim B (List.length p4 + List.length ((v1010_0, mt (Ty.den (Ty.pair (Ty.int IntKind.i64) (Ty.pair (Ty.int IntKind.i64) (Ty.pair Ty.str Ty.str))))) :: mt (Ty.den (Ty.pair (Ty.int IntKind.i64) (Ty.list (98) (Ty.pair (Ty.int IntKind.i64) (Ty.pair (Ty.int IntKind.i64) (Ty.pair Ty.str Ty.str)))))))) (32))
     (
      k (p4 ++ (v1010_0, mt (Ty.den (Ty.pair (Ty.int IntKind.i64) (Ty.pair (Ty.int IntKind.i64) (Ty.pair Ty.str Ty.str))))) :: mt (Ty.den (Ty.pair (Ty.int IntKind.i64) (Ty.list (98) (Ty.pair (Ty.int IntKind.i64) (Ty.pair (Ty.int IntKind.i64) (Ty.pair Ty.str Ty.str))))))))
     (
      none)
  | some (.l1015 v1015_0) =>
    k v1015_0
  | some (.l1026 v1026_3 v1026_4 v1026_5) =>
    cond (Ops.inb B (0) (List.length v1026_4))
     (
      agree
       (
        agree
         (
          cond (Ops.lim B (List.length p4 + List.length ((v1026_5, mt (Ty.den (Ty.pair (Ty.int IntKind.i64) (Ty.pair (Ty.int IntKind.i64) (Ty.pair Ty.str Ty.str))))) :: mt (Ty.den (Ty.pair (Ty.int IntKind.i64) (Ty.list (98) (Ty.pair (Ty.int IntKind.i64) (Ty.pair (Ty.int IntKind.i64) (Ty.pair Ty.str Ty.str)))))))) (32))
           (
            agree
             (
              ob (c67 p0 p1 (List.getD v1026_4 (Int.toNat (0)) (Ty.dflt ty3)) p3 (p4 ++ (v1026_5, mt (Ty.den (Ty.pair (Ty.int IntKind.i64) (Ty.pair (Ty.int IntKind.i64) (Ty.pair Ty.str Ty.str))))) :: mt (Ty.den (Ty.pair (Ty.int IntKind.i64) (Ty.list (98) (Ty.pair (Ty.int IntKind.i64) (Ty.pair (Ty.int IntKind.i64) (Ty.pair Ty.str Ty.str)))))))) fun y0 =>
              cond (Ops.lim B (List.length y0 + List.length ((v1026_3, mt (Ty.den (Ty.pair (Ty.int IntKind.i64) (Ty.pair (Ty.int IntKind.i64) (Ty.pair Ty.str Ty.str))))) :: mt (Ty.den (Ty.pair (Ty.int IntKind.i64) (Ty.list (98) (Ty.pair (Ty.int IntKind.i64) (Ty.pair (Ty.int IntKind.i64) (Ty.pair Ty.str Ty.str)))))))) (32))
               (
                k (y0 ++ (v1026_3, mt (Ty.den (Ty.pair (Ty.int IntKind.i64) (Ty.pair (Ty.int IntKind.i64) (Ty.pair Ty.str Ty.str))))) :: mt (Ty.den (Ty.pair (Ty.int IntKind.i64) (Ty.list (98) (Ty.pair (Ty.int IntKind.i64) (Ty.pair (Ty.int IntKind.i64) (Ty.pair Ty.str Ty.str))))))))
               (
                none))
             (
              ob (c67 p0 p1 (List.getD v1026_4 (Int.toNat (0)) (Ty.dflt ty3)) p3 (p4 ++ (v1026_5, mt (Ty.den (Ty.pair (Ty.int IntKind.i64) (Ty.pair (Ty.int IntKind.i64) (Ty.pair Ty.str Ty.str))))) :: mt (Ty.den (Ty.pair (Ty.int IntKind.i64) (Ty.list (98) (Ty.pair (Ty.int IntKind.i64) (Ty.pair (Ty.int IntKind.i64) (Ty.pair Ty.str Ty.str)))))))) fun y0 =>
              cond (Ops.lim B (List.length y0 + List.length ((v1026_3, mt (Ty.den (Ty.pair (Ty.int IntKind.i64) (Ty.pair (Ty.int IntKind.i64) (Ty.pair Ty.str Ty.str))))) :: mt (Ty.den (Ty.pair (Ty.int IntKind.i64) (Ty.list (98) (Ty.pair (Ty.int IntKind.i64) (Ty.pair (Ty.int IntKind.i64) (Ty.pair Ty.str Ty.str)))))))) (32))
               (
                k (y0 ++ (v1026_3, mt (Ty.den (Ty.pair (Ty.int IntKind.i64) (Ty.pair (Ty.int IntKind.i64) (Ty.pair Ty.str Ty.str))))) :: mt (Ty.den (Ty.pair (Ty.int IntKind.i64) (Ty.list (98) (Ty.pair (Ty.int IntKind.i64) (Ty.pair (Ty.int IntKind.i64) (Ty.pair Ty.str Ty.str))))))))
               (
                none)))
           (
            none))
         (
          cond (Ops.lim B (List.length p4 + List.length ((v1026_5, mt (Ty.den (Ty.pair (Ty.int IntKind.i64) (Ty.pair (Ty.int IntKind.i64) (Ty.pair Ty.str Ty.str))))) :: mt (Ty.den (Ty.pair (Ty.int IntKind.i64) (Ty.list (98) (Ty.pair (Ty.int IntKind.i64) (Ty.pair (Ty.int IntKind.i64) (Ty.pair Ty.str Ty.str)))))))) (32))
           (
            ob (c67 p0 p1 (List.getD v1026_4 (Int.toNat (0)) (Ty.dflt ty3)) p3 (p4 ++ (v1026_5, mt (Ty.den (Ty.pair (Ty.int IntKind.i64) (Ty.pair (Ty.int IntKind.i64) (Ty.pair Ty.str Ty.str))))) :: mt (Ty.den (Ty.pair (Ty.int IntKind.i64) (Ty.list (98) (Ty.pair (Ty.int IntKind.i64) (Ty.pair (Ty.int IntKind.i64) (Ty.pair Ty.str Ty.str)))))))) fun y0 =>
            cond (Ops.lim B (List.length y0 + List.length ((v1026_3, mt (Ty.den (Ty.pair (Ty.int IntKind.i64) (Ty.pair (Ty.int IntKind.i64) (Ty.pair Ty.str Ty.str))))) :: mt (Ty.den (Ty.pair (Ty.int IntKind.i64) (Ty.list (98) (Ty.pair (Ty.int IntKind.i64) (Ty.pair (Ty.int IntKind.i64) (Ty.pair Ty.str Ty.str)))))))) (32))
             (
              k (y0 ++ (v1026_3, mt (Ty.den (Ty.pair (Ty.int IntKind.i64) (Ty.pair (Ty.int IntKind.i64) (Ty.pair Ty.str Ty.str))))) :: mt (Ty.den (Ty.pair (Ty.int IntKind.i64) (Ty.list (98) (Ty.pair (Ty.int IntKind.i64) (Ty.pair (Ty.int IntKind.i64) (Ty.pair Ty.str Ty.str))))))))
             (
              none))
           (
            none)))
       (
        cond (Ops.lim B (List.length p4 + List.length ((v1026_5, mt (Ty.den (Ty.pair (Ty.int IntKind.i64) (Ty.pair (Ty.int IntKind.i64) (Ty.pair Ty.str Ty.str))))) :: mt (Ty.den (Ty.pair (Ty.int IntKind.i64) (Ty.list (98) (Ty.pair (Ty.int IntKind.i64) (Ty.pair (Ty.int IntKind.i64) (Ty.pair Ty.str Ty.str)))))))) (32))
         (
          ob (c67 p0 p1 (List.getD v1026_4 (Int.toNat (0)) (Ty.dflt ty3)) p3 (p4 ++ (v1026_5, mt (Ty.den (Ty.pair (Ty.int IntKind.i64) (Ty.pair (Ty.int IntKind.i64) (Ty.pair Ty.str Ty.str))))) :: mt (Ty.den (Ty.pair (Ty.int IntKind.i64) (Ty.list (98) (Ty.pair (Ty.int IntKind.i64) (Ty.pair (Ty.int IntKind.i64) (Ty.pair Ty.str Ty.str)))))))) fun y0 =>
          cond (Ops.lim B (List.length y0 + List.length ((v1026_3, mt (Ty.den (Ty.pair (Ty.int IntKind.i64) (Ty.pair (Ty.int IntKind.i64) (Ty.pair Ty.str Ty.str))))) :: mt (Ty.den (Ty.pair (Ty.int IntKind.i64) (Ty.list (98) (Ty.pair (Ty.int IntKind.i64) (Ty.pair (Ty.int IntKind.i64) (Ty.pair Ty.str Ty.str)))))))) (32))
           (
            k (y0 ++ (v1026_3, mt (Ty.den (Ty.pair (Ty.int IntKind.i64) (Ty.pair (Ty.int IntKind.i64) (Ty.pair Ty.str Ty.str))))) :: mt (Ty.den (Ty.pair (Ty.int IntKind.i64) (Ty.list (98) (Ty.pair (Ty.int IntKind.i64) (Ty.pair (Ty.int IntKind.i64) (Ty.pair Ty.str Ty.str))))))))
           (
            none))
         (
          none)))
     (
      none)
  | some (.l1033 v1033_3 v1033_4 v1033_5) =>
    cond (Ops.inb B (0) (List.length v1033_4))
     (
      agree
       (
        agree
         (
          cond (Ops.lim B (List.length p4 + List.length ((v1033_5, mt (Ty.den (Ty.pair (Ty.int IntKind.i64) (Ty.pair (Ty.int IntKind.i64) (Ty.pair Ty.str Ty.str))))) :: mt (Ty.den (Ty.pair (Ty.int IntKind.i64) (Ty.list (98) (Ty.pair (Ty.int IntKind.i64) (Ty.pair (Ty.int IntKind.i64) (Ty.pair Ty.str Ty.str)))))))) (32))
           (
            agree
             (
              ob (c67 p0 p1 (List.getD v1033_4 (Int.toNat (0)) (Ty.dflt ty3)) p3 (p4 ++ (v1033_5, mt (Ty.den (Ty.pair (Ty.int IntKind.i64) (Ty.pair (Ty.int IntKind.i64) (Ty.pair Ty.str Ty.str))))) :: mt (Ty.den (Ty.pair (Ty.int IntKind.i64) (Ty.list (98) (Ty.pair (Ty.int IntKind.i64) (Ty.pair (Ty.int IntKind.i64) (Ty.pair Ty.str Ty.str)))))))) fun y0 =>
              cond (Ops.lim B (List.length y0 + List.length ((v1033_3, mt (Ty.den (Ty.pair (Ty.int IntKind.i64) (Ty.pair (Ty.int IntKind.i64) (Ty.pair Ty.str Ty.str))))) :: mt (Ty.den (Ty.pair (Ty.int IntKind.i64) (Ty.list (98) (Ty.pair (Ty.int IntKind.i64) (Ty.pair (Ty.int IntKind.i64) (Ty.pair Ty.str Ty.str)))))))) (32))
               (
                k (y0 ++ (v1033_3, mt (Ty.den (Ty.pair (Ty.int IntKind.i64) (Ty.pair (Ty.int IntKind.i64) (Ty.pair Ty.str Ty.str))))) :: mt (Ty.den (Ty.pair (Ty.int IntKind.i64) (Ty.list (98) (Ty.pair (Ty.int IntKind.i64) (Ty.pair (Ty.int IntKind.i64) (Ty.pair Ty.str Ty.str))))))))
               (
                none))
             (
              ob (c67 p0 p1 (List.getD v1033_4 (Int.toNat (0)) (Ty.dflt ty3)) p3 (p4 ++ (v1033_5, mt (Ty.den (Ty.pair (Ty.int IntKind.i64) (Ty.pair (Ty.int IntKind.i64) (Ty.pair Ty.str Ty.str))))) :: mt (Ty.den (Ty.pair (Ty.int IntKind.i64) (Ty.list (98) (Ty.pair (Ty.int IntKind.i64) (Ty.pair (Ty.int IntKind.i64) (Ty.pair Ty.str Ty.str)))))))) fun y0 =>
              cond (Ops.lim B (List.length y0 + List.length ((v1033_3, mt (Ty.den (Ty.pair (Ty.int IntKind.i64) (Ty.pair (Ty.int IntKind.i64) (Ty.pair Ty.str Ty.str))))) :: mt (Ty.den (Ty.pair (Ty.int IntKind.i64) (Ty.list (98) (Ty.pair (Ty.int IntKind.i64) (Ty.pair (Ty.int IntKind.i64) (Ty.pair Ty.str Ty.str)))))))) (32))
               (
                k (y0 ++ (v1033_3, mt (Ty.den (Ty.pair (Ty.int IntKind.i64) (Ty.pair (Ty.int IntKind.i64) (Ty.pair Ty.str Ty.str))))) :: mt (Ty.den (Ty.pair (Ty.int IntKind.i64) (Ty.list (98) (Ty.pair (Ty.int IntKind.i64) (Ty.pair (Ty.int IntKind.i64) (Ty.pair Ty.str Ty.str))))))))
               (
                none)))
           (
            none))
         (
          cond (Ops.lim B (List.length p4 + List.length ((v1033_5, mt (Ty.den (Ty.pair (Ty.int IntKind.i64) (Ty.pair (Ty.int IntKind.i64) (Ty.pair Ty.str Ty.str))))) :: mt (Ty.den (Ty.pair (Ty.int IntKind.i64) (Ty.list (98) (Ty.pair (Ty.int IntKind.i64) (Ty.pair (Ty.int IntKind.i64) (Ty.pair Ty.str Ty.str)))))))) (32))
           (
            ob (c67 p0 p1 (List.getD v1033_4 (Int.toNat (0)) (Ty.dflt ty3)) p3 (p4 ++ (v1033_5, mt (Ty.den (Ty.pair (Ty.int IntKind.i64) (Ty.pair (Ty.int IntKind.i64) (Ty.pair Ty.str Ty.str))))) :: mt (Ty.den (Ty.pair (Ty.int IntKind.i64) (Ty.list (98) (Ty.pair (Ty.int IntKind.i64) (Ty.pair (Ty.int IntKind.i64) (Ty.pair Ty.str Ty.str)))))))) fun y0 =>
            cond (Ops.lim B (List.length y0 + List.length ((v1033_3, mt (Ty.den (Ty.pair (Ty.int IntKind.i64) (Ty.pair (Ty.int IntKind.i64) (Ty.pair Ty.str Ty.str))))) :: mt (Ty.den (Ty.pair (Ty.int IntKind.i64) (Ty.list (98) (Ty.pair (Ty.int IntKind.i64) (Ty.pair (Ty.int IntKind.i64) (Ty.pair Ty.str Ty.str)))))))) (32))
             (
              k (y0 ++ (v1033_3, mt (Ty.den (Ty.pair (Ty.int IntKind.i64) (Ty.pair (Ty.int IntKind.i64) (Ty.pair Ty.str Ty.str))))) :: mt (Ty.den (Ty.pair (Ty.int IntKind.i64) (Ty.list (98) (Ty.pair (Ty.int IntKind.i64) (Ty.pair (Ty.int IntKind.i64) (Ty.pair Ty.str Ty.str))))))))
             (
              none))
           (
            none)))
       (
        cond (Ops.lim B (List.length p4 + List.length ((v1033_5, mt (Ty.den (Ty.pair (Ty.int IntKind.i64) (Ty.pair (Ty.int IntKind.i64) (Ty.pair Ty.str Ty.str))))) :: mt (Ty.den (Ty.pair (Ty.int IntKind.i64) (Ty.list (98) (Ty.pair (Ty.int IntKind.i64) (Ty.pair (Ty.int IntKind.i64) (Ty.pair Ty.str Ty.str)))))))) (32))
         (
          ob (c67 p0 p1 (List.getD v1033_4 (Int.toNat (0)) (Ty.dflt ty3)) p3 (p4 ++ (v1033_5, mt (Ty.den (Ty.pair (Ty.int IntKind.i64) (Ty.pair (Ty.int IntKind.i64) (Ty.pair Ty.str Ty.str))))) :: mt (Ty.den (Ty.pair (Ty.int IntKind.i64) (Ty.list (98) (Ty.pair (Ty.int IntKind.i64) (Ty.pair (Ty.int IntKind.i64) (Ty.pair Ty.str Ty.str)))))))) fun y0 =>
          cond (Ops.lim B (List.length y0 + List.length ((v1033_3, mt (Ty.den (Ty.pair (Ty.int IntKind.i64) (Ty.pair (Ty.int IntKind.i64) (Ty.pair Ty.str Ty.str))))) :: mt (Ty.den (Ty.pair (Ty.int IntKind.i64) (Ty.list (98) (Ty.pair (Ty.int IntKind.i64) (Ty.pair (Ty.int IntKind.i64) (Ty.pair Ty.str Ty.str)))))))) (32))
           (
            k (y0 ++ (v1033_3, mt (Ty.den (Ty.pair (Ty.int IntKind.i64) (Ty.pair (Ty.int IntKind.i64) (Ty.pair Ty.str Ty.str))))) :: mt (Ty.den (Ty.pair (Ty.int IntKind.i64) (Ty.list (98) (Ty.pair (Ty.int IntKind.i64) (Ty.pair (Ty.int IntKind.i64) (Ty.pair Ty.str Ty.str))))))))
           (
            none))
         (
          none)))
     (
      none)
  | some (.l1038 v1038_1 v1038_2) =>
    cond (p3)
     (
      ob (c82 v1038_1) fun y0 =>
      cond (Ops.lim B (List.length v1038_2 + List.length ((y0, mt (Ty.den (Ty.pair (Ty.int IntKind.i64) (Ty.pair (Ty.int IntKind.i64) (Ty.pair Ty.str Ty.str))))) :: mt (Ty.den (Ty.pair (Ty.int IntKind.i64) (Ty.list (98) (Ty.pair (Ty.int IntKind.i64) (Ty.pair (Ty.int IntKind.i64) (Ty.pair Ty.str Ty.str)))))))) (32))
       (
        k (v1038_2 ++ (y0, mt (Ty.den (Ty.pair (Ty.int IntKind.i64) (Ty.pair (Ty.int IntKind.i64) (Ty.pair Ty.str Ty.str))))) :: mt (Ty.den (Ty.pair (Ty.int IntKind.i64) (Ty.list (98) (Ty.pair (Ty.int IntKind.i64) (Ty.pair (Ty.int IntKind.i64) (Ty.pair Ty.str Ty.str))))))))
       (
        none))
     (
      cond (Ops.lim B (List.length v1038_2 + List.length ((v1038_1, mt (Ty.den (Ty.pair (Ty.int IntKind.i64) (Ty.pair (Ty.int IntKind.i64) (Ty.pair Ty.str Ty.str))))) :: mt (Ty.den (Ty.pair (Ty.int IntKind.i64) (Ty.list (98) (Ty.pair (Ty.int IntKind.i64) (Ty.pair (Ty.int IntKind.i64) (Ty.pair Ty.str Ty.str)))))))) (32))
       (
        k (v1038_2 ++ (v1038_1, mt (Ty.den (Ty.pair (Ty.int IntKind.i64) (Ty.pair (Ty.int IntKind.i64) (Ty.pair Ty.str Ty.str))))) :: mt (Ty.den (Ty.pair (Ty.int IntKind.i64) (Ty.list (98) (Ty.pair (Ty.int IntKind.i64) (Ty.pair (Ty.int IntKind.i64) (Ty.pair Ty.str Ty.str))))))))
       (
        none))
theorem ta67 {R : Type} (B : Ops) (c67 : List ty66.den → List ty22.den → Int → Bool → List ty66.den → Option ((List ty66.den))) (c82 : Int → Option (Int)) (p0 : List ty66.den) (p1 : List ty22.den) (p2 : Int) (p3 : Bool) (p4 : List ty66.den) (again : S67 → Option R) (k : ((List ty66.den)) → Option R) : ∀ s, Ta67 B c67 c82 p0 p1 p2 p3 p4 again k s = T67 B c67 c82 p0 p1 p2 p3 p4 again k s
  | none => by unfold Ta67 T67; simp only [agree_self]
  | some (.l1010 v1010_0) => by unfold Ta67 T67; simp only [agree_self]
  | some (.l1015 v1015_0) => by unfold Ta67 T67; simp only [agree_self]
  | some (.l1026 v1026_3 v1026_4 v1026_5) => by unfold Ta67 T67; simp only [agree_self]
  | some (.l1033 v1033_3 v1033_4 v1033_5) => by unfold Ta67 T67; simp only [agree_self]
  | some (.l1038 v1038_1 v1038_2) => by unfold Ta67 T67; simp only [agree_self]
theorem eq67 {R : Type} (B : Ops) (c67 : List ty66.den → List ty22.den → Int → Bool → List ty66.den → Option ((List ty66.den))) (c82 : Int → Option (Int)) (p0 : List ty66.den) (p1 : List ty22.den) (p2 : Int) (p3 : Bool) (p4 : List ty66.den) (k : AV → Objs → Option R) (n : Nat) : afun tau B gl0 X67 (ent 67 (e67 c67) (ent 82 (e82 c82) (gnil))) ow Try.f67 [.c (.list 66 ty66 p0), .c (.list 22 ty22 p1), .c (.int .i64 p2), .c (.bool p3), .c (.own 4)] [(4, .row 66 ty66 p4)] k n = T67 B c67 c82 p0 p1 p2 p3 p4 (fun s => aloop tau B gl0 X67 (ent 67 (e67 c67) (ent 82 (e82 c82) (gnil))) ow [] Try.f67 k (I67 s) (E67 p0 p1 p2 p3 p4 s) n) (fun y => k (.c (.own 500)) [(500, .row 66 ty66 y)]) none := by rw [← ta67]; kernel_rfl
theorem el67 {R : Type} (B : Ops) (c67 : List ty66.den → List ty22.den → Int → Bool → List ty66.den → Option ((List ty66.den))) (c82 : Int → Option (Int)) (p0 : List ty66.den) (p1 : List ty22.den) (p2 : Int) (p3 : Bool) (p4 : List ty66.den) (k : AV → Objs → Option R) (n : Nat) : ∀ s, aloop tau B gl0 X67 (ent 67 (e67 c67) (ent 82 (e82 c82) (gnil))) ow [] Try.f67 k (I67 s) (E67 p0 p1 p2 p3 p4 s) (n + 1) = T67 B c67 c82 p0 p1 p2 p3 p4 (fun s => aloop tau B gl0 X67 (ent 67 (e67 c67) (ent 82 (e82 c82) (gnil))) ow [] Try.f67 k (I67 s) (E67 p0 p1 p2 p3 p4 s) n) (fun y => k (.c (.own 500)) [(500, .row 66 ty66 y)]) (some s)
  | .l1010 v1010_0 => by rw [← ta67]; kernel_rfl
  | .l1015 v1015_0 => by rw [← ta67]; kernel_rfl
  | .l1026 v1026_3 v1026_4 v1026_5 => by rw [← ta67]; kernel_rfl
  | .l1033 v1033_3 v1033_4 v1033_5 => by rw [← ta67]; kernel_rfl
  | .l1038 v1038_1 v1038_2 => by rw [← ta67]; kernel_rfl
theorem nt67 {R R' : Type} (B : Ops) (c67 : List ty66.den → List ty22.den → Int → Bool → List ty66.den → Option ((List ty66.den))) (c82 : Int → Option (Int)) (p0 : List ty66.den) (p1 : List ty22.den) (p2 : Int) (p3 : Bool) (p4 : List ty66.den) (again : S67 → Option R) (again' : S67 → Option R') (k0 : ((List ty66.den)) → Option R') (k : R' → Option R) (h : ∀ s, again s = ob (again' s) k) : ∀ s, T67 B c67 c82 p0 p1 p2 p3 p4 again (fun y => ob (k0 y) k) s = ob (T67 B c67 c82 p0 p1 p2 p3 p4 again' k0 s) k
  | none => by unfold T67; repeat' first | exact rfl | exact h _ | apply nat_cond | (apply nat_ob; intro)
  | some (.l1010 v1010_0) => by unfold T67; repeat' first | exact rfl | exact h _ | apply nat_cond | (apply nat_ob; intro)
  | some (.l1015 v1015_0) => by unfold T67; repeat' first | exact rfl | exact h _ | apply nat_cond | (apply nat_ob; intro)
  | some (.l1026 v1026_3 v1026_4 v1026_5) => by unfold T67; repeat' first | exact rfl | exact h _ | apply nat_cond | (apply nat_ob; intro)
  | some (.l1033 v1033_3 v1033_4 v1033_5) => by unfold T67; repeat' first | exact rfl | exact h _ | apply nat_cond | (apply nat_ob; intro)
  | some (.l1038 v1038_1 v1038_2) => by unfold T67; repeat' first | exact rfl | exact h _ | apply nat_cond | (apply nat_ob; intro)
def R67 (c67 : List ty66.den → List ty22.den → Int → Bool → List ty66.den → Option ((List ty66.den))) (c82 : Int → Option (Int)) (p0 : List ty66.den) (p1 : List ty22.den) (p2 : Int) (p3 : Bool) (p4 : List ty66.den) : Nat → S67 → Option ((List ty66.den))
  | 0, _ => none
  | n + 1, s => T67 Ops.std c67 c82 p0 p1 p2 p3 p4 (R67 c67 c82 p0 p1 p2 p3 p4 n) some (some s)
theorem rr67 {R : Type} (c67 : List ty66.den → List ty22.den → Int → Bool → List ty66.den → Option ((List ty66.den))) (c82 : Int → Option (Int)) (p0 : List ty66.den) (p1 : List ty22.den) (p2 : Int) (p3 : Bool) (p4 : List ty66.den) (k : AV → Objs → Option R) : ∀ (n : Nat) (s : S67), aloop tau Ops.std gl0 X67 (ent 67 (e67 c67) (ent 82 (e82 c82) (gnil))) ow [] Try.f67 k (I67 s) (E67 p0 p1 p2 p3 p4 s) n = ob (R67 c67 c82 p0 p1 p2 p3 p4 n s) (fun y => k (.c (.own 500)) [(500, .row 66 ty66 y)])
  | 0, s => by cases s <;> rfl
  | n + 1, s => by rw [el67]; exact nt67 Ops.std c67 c82 p0 p1 p2 p3 p4 _ _ some (fun y => k (.c (.own 500)) [(500, .row 66 ty66 y)]) (rr67 c67 c82 p0 p1 p2 p3 p4 k n) (some s)
def F67 (c67 : List ty66.den → List ty22.den → Int → Bool → List ty66.den → Option ((List ty66.den))) (c82 : Int → Option (Int)) (p0 : List ty66.den) (p1 : List ty22.den) (p2 : Int) (p3 : Bool) (p4 : List ty66.den) : Option ((List ty66.den)) := T67 Ops.std c67 c82 p0 p1 p2 p3 p4 (R67 c67 c82 p0 p1 p2 p3 p4 1000000) some none
theorem fo67 {R : Type} (c67 : List ty66.den → List ty22.den → Int → Bool → List ty66.den → Option ((List ty66.den))) (c82 : Int → Option (Int)) (p0 : List ty66.den) (p1 : List ty22.den) (p2 : Int) (p3 : Bool) (p4 : List ty66.den) (k : AV → Objs → Option R) : afun tau Ops.std gl0 X67 (ent 67 (e67 c67) (ent 82 (e82 c82) (gnil))) ow Try.f67 [.c (.list 66 ty66 p0), .c (.list 22 ty22 p1), .c (.int .i64 p2), .c (.bool p3), .c (.own 4)] [(4, .row 66 ty66 p4)] k 1000000 = ob (F67 c67 c82 p0 p1 p2 p3 p4) (fun y => k (.c (.own 500)) [(500, .row 66 ty66 y)]) := by rw [eq67]; exact nt67 Ops.std c67 c82 p0 p1 p2 p3 p4 _ _ some (fun y => k (.c (.own 500)) [(500, .row 66 ty66 y)]) (rr67 c67 c82 p0 p1 p2 p3 p4 k 1000000) none
theorem sf67 {c67 : List ty66.den → List ty22.den → Int → Bool → List ty66.den → Option ((List ty66.den))} {c82 : Int → Option (Int)} (h67 : Sp67 c67) (h82 : Sp82 c82) : Sp67 (F67 c67 c82) := fun p0 p1 p2 p3 p4 y hy => by
  refine spec_of (G := ent 67 (e67 c67) (ent 82 (e82 c82) (gnil))) (ent_ok (ek67 h67) (ent_ok (ek82 h82) (gnil_ok))) 1000000 (fn := Try.f67) (by kernel_rfl) (by kernel_rfl) (X := X67) (by kernel_rfl) ?_
  rw [fo67, hy]
  rfl
noncomputable def Rec67 : Nat → (List ty66.den → List ty22.den → Int → Bool → List ty66.den → Option ((List ty66.den)))
  | 0 => fun _ _ _ _ _ => none
  | d + 1 => F67 (Rec67 d) M82
theorem rec67 : ∀ d, Sp67 (Rec67 d)
  | 0 => fun p0 p1 p2 p3 p4 y (h : (none : Option ((List ty66.den))) = some y) => by cases h
  | d + 1 => sf67 (rec67 d) sm82
noncomputable def M67 : List ty66.den → List ty22.den → Int → Bool → List ty66.den → Option ((List ty66.den)) := (Rec67 1000000)
theorem sm67 : Sp67 M67 := (rec67 1000000)

/-! ### 44: lariat/lariatref13.nnf -/
def X44 : Aux := ⟨[], []⟩
def T44 {R : Type} (B : Ops) (c48 : List ty66.den → Option (Bool)) (c47 : List ty66.den → Option ((List ty22.den))) (c67 : List ty66.den → List ty22.den → Int → Bool → List ty66.den → Option ((List ty66.den))) (p0 : List ty66.den) (p1 : Bool) (k : ((List ty66.den)) → Option R) : Option R :=
  ob (c48 p0) fun y0 =>
  cond (!y0)
   (
    k (mt (Ty.den (Ty.pair (Ty.int IntKind.i64) (Ty.list (98) (Ty.pair (Ty.int IntKind.i64) (Ty.pair (Ty.int IntKind.i64) (Ty.pair Ty.str Ty.str))))))))
   (
    ob (c47 p0) fun y1 =>
    ob (c67 p0 y1 (IntKind.wrap IntKind.i64 (Nat.cast (List.length p0) - 1)) p1 (mt (Ty.den (Ty.pair (Ty.int IntKind.i64) (Ty.list (98) (Ty.pair (Ty.int IntKind.i64) (Ty.pair (Ty.int IntKind.i64) (Ty.pair Ty.str Ty.str)))))))) fun y2 =>
    cond (Ops.lt B (60) (Nat.cast (List.length y2)))
     (
      k (mt (Ty.den (Ty.pair (Ty.int IntKind.i64) (Ty.list (98) (Ty.pair (Ty.int IntKind.i64) (Ty.pair (Ty.int IntKind.i64) (Ty.pair Ty.str Ty.str))))))))
     (
      k y2))
theorem eq44 {R : Type} (B : Ops) (c48 : List ty66.den → Option (Bool)) (c47 : List ty66.den → Option ((List ty22.den))) (c67 : List ty66.den → List ty22.den → Int → Bool → List ty66.den → Option ((List ty66.den))) (p0 : List ty66.den) (p1 : Bool) (k : AV → Objs → Option R) (n : Nat) : afun tau B gl0 X44 (ent 48 (e48 c48) (ent 47 (e47 c47) (ent 67 (e67 c67) (gnil)))) ow Try.f44 [.c (.list 66 ty66 p0), .c (.bool p1)] [] k n = T44 B c48 c47 c67 p0 p1 (fun y => k (.c (.own 500)) [(500, .row 66 ty66 y)]) := by kernel_rfl
theorem nt44 {R R' : Type} (B : Ops) (c48 : List ty66.den → Option (Bool)) (c47 : List ty66.den → Option ((List ty22.den))) (c67 : List ty66.den → List ty22.den → Int → Bool → List ty66.den → Option ((List ty66.den))) (p0 : List ty66.den) (p1 : Bool) (k0 : ((List ty66.den)) → Option R') (k : R' → Option R) : T44 B c48 c47 c67 p0 p1 (fun y => ob (k0 y) k) = ob (T44 B c48 c47 c67 p0 p1 k0) k := by
  unfold T44
  repeat' first | exact rfl | apply nat_cond | (apply nat_ob; intro)
def F44 (c48 : List ty66.den → Option (Bool)) (c47 : List ty66.den → Option ((List ty22.den))) (c67 : List ty66.den → List ty22.den → Int → Bool → List ty66.den → Option ((List ty66.den))) (p0 : List ty66.den) (p1 : Bool) : Option ((List ty66.den)) := T44 Ops.std c48 c47 c67 p0 p1 some
theorem fo44 {R : Type} (c48 : List ty66.den → Option (Bool)) (c47 : List ty66.den → Option ((List ty22.den))) (c67 : List ty66.den → List ty22.den → Int → Bool → List ty66.den → Option ((List ty66.den))) (p0 : List ty66.den) (p1 : Bool) (k : AV → Objs → Option R) (n : Nat) : afun tau Ops.std gl0 X44 (ent 48 (e48 c48) (ent 47 (e47 c47) (ent 67 (e67 c67) (gnil)))) ow Try.f44 [.c (.list 66 ty66 p0), .c (.bool p1)] [] k n = ob (F44 c48 c47 c67 p0 p1) (fun y => k (.c (.own 500)) [(500, .row 66 ty66 y)]) := by rw [eq44]; exact nt44 Ops.std c48 c47 c67 p0 p1 some (fun y => k (.c (.own 500)) [(500, .row 66 ty66 y)])
def e44 {R : Type} (c : List ty66.den → Bool → Option ((List ty66.den))) : Ent R := fun args objs k =>
  oCons args fun a0 l0 => oC a0 fun x0 => cList 66 ty66 x0 fun p0 => oCons l0 fun a1 l1 => oC a1 fun x1 => cBool x1 fun p1 => oNil l1 <| oNilO objs <| ob (c p0 p1) fun y => k (.c (.own 500)) [(500, .row 66 ty66 y)]
abbrev Sp44 (c : List ty66.den → Bool → Option ((List ty66.den))) : Prop := ∀ (p0 : List ty66.den) (p1 : Bool) (y : (List ty66.den)), c p0 p1 = some y → Spec Try.prog gl0 44 [.c (.list 66 ty66 p0), .c (.bool p1)] [] (.c (.own 500)) [(500, .row 66 ty66 y)]
theorem ek44 {R : Type} {c : List ty66.den → Bool → Option ((List ty66.den))} (hs : Sp44 c) : EOk 44 (e44 (R := R) c) := fun args objs k r h => by
  unfold e44 at h
  obtain ⟨a0, l0, rfl, q1⟩ := oCons_some h
  obtain ⟨x0, rfl, q2⟩ := oC_some q1
  obtain ⟨p0, rfl, q3⟩ := cList_some q2
  obtain ⟨a1, l1, rfl, q4⟩ := oCons_some q3
  obtain ⟨x1, rfl, q5⟩ := oC_some q4
  obtain ⟨p1, rfl, q6⟩ := cBool_some q5
  obtain ⟨rfl, q7⟩ := oNil_some q6
  obtain ⟨rfl, q8⟩ := oNilO_some q7
  exact eok_of (hs p0 p1) q8
theorem sf44 {c48 : List ty66.den → Option (Bool)} {c47 : List ty66.den → Option ((List ty22.den))} {c67 : List ty66.den → List ty22.den → Int → Bool → List ty66.den → Option ((List ty66.den))} (h48 : Sp48 c48) (h47 : Sp47 c47) (h67 : Sp67 c67) : Sp44 (F44 c48 c47 c67) := fun p0 p1 y hy => by
  refine spec_of (G := ent 48 (e48 c48) (ent 47 (e47 c47) (ent 67 (e67 c67) (gnil)))) (ent_ok (ek48 h48) (ent_ok (ek47 h47) (ent_ok (ek67 h67) (gnil_ok)))) 1000000 (fn := Try.f44) (by kernel_rfl) (by kernel_rfl) (X := X44) (by kernel_rfl) ?_
  rw [fo44, hy]
  rfl
noncomputable def M44 : List ty66.den → Bool → Option ((List ty66.den)) := F44 M48 M47 M67
theorem sm44 : Sp44 M44 := sf44 sm48 sm47 sm67

/-! ### 21: lariat/lariatref13.Nnf -/
def X21 : Aux := ⟨[], []⟩
def T21 {R : Type} (B : Ops) (c44 : List ty66.den → Bool → Option ((List ty66.den))) (p0 : List ty66.den) (k : ((List ty66.den)) → Option R) : Option R :=
  ob (c44 p0 false) fun y0 =>
  k y0
theorem eq21 {R : Type} (B : Ops) (c44 : List ty66.den → Bool → Option ((List ty66.den))) (p0 : List ty66.den) (k : AV → Objs → Option R) (n : Nat) : afun tau B gl0 X21 (ent 44 (e44 c44) (gnil)) ow Try.f21 [.c (.list 66 ty66 p0)] [] k n = T21 B c44 p0 (fun y => k (.c (.own 500)) [(500, .row 66 ty66 y)]) := by kernel_rfl
theorem nt21 {R R' : Type} (B : Ops) (c44 : List ty66.den → Bool → Option ((List ty66.den))) (p0 : List ty66.den) (k0 : ((List ty66.den)) → Option R') (k : R' → Option R) : T21 B c44 p0 (fun y => ob (k0 y) k) = ob (T21 B c44 p0 k0) k := by
  unfold T21
  repeat' first | exact rfl | apply nat_cond | (apply nat_ob; intro)
def F21 (c44 : List ty66.den → Bool → Option ((List ty66.den))) (p0 : List ty66.den) : Option ((List ty66.den)) := T21 Ops.std c44 p0 some
theorem fo21 {R : Type} (c44 : List ty66.den → Bool → Option ((List ty66.den))) (p0 : List ty66.den) (k : AV → Objs → Option R) (n : Nat) : afun tau Ops.std gl0 X21 (ent 44 (e44 c44) (gnil)) ow Try.f21 [.c (.list 66 ty66 p0)] [] k n = ob (F21 c44 p0) (fun y => k (.c (.own 500)) [(500, .row 66 ty66 y)]) := by rw [eq21]; exact nt21 Ops.std c44 p0 some (fun y => k (.c (.own 500)) [(500, .row 66 ty66 y)])
def e21 {R : Type} (c : List ty66.den → Option ((List ty66.den))) : Ent R := fun args objs k =>
  oCons args fun a0 l0 => oC a0 fun x0 => cList 66 ty66 x0 fun p0 => oNil l0 <| oNilO objs <| ob (c p0) fun y => k (.c (.own 500)) [(500, .row 66 ty66 y)]
abbrev Sp21 (c : List ty66.den → Option ((List ty66.den))) : Prop := ∀ (p0 : List ty66.den) (y : (List ty66.den)), c p0 = some y → Spec Try.prog gl0 21 [.c (.list 66 ty66 p0)] [] (.c (.own 500)) [(500, .row 66 ty66 y)]
theorem ek21 {R : Type} {c : List ty66.den → Option ((List ty66.den))} (hs : Sp21 c) : EOk 21 (e21 (R := R) c) := fun args objs k r h => by
  unfold e21 at h
  obtain ⟨a0, l0, rfl, q1⟩ := oCons_some h
  obtain ⟨x0, rfl, q2⟩ := oC_some q1
  obtain ⟨p0, rfl, q3⟩ := cList_some q2
  obtain ⟨rfl, q4⟩ := oNil_some q3
  obtain ⟨rfl, q5⟩ := oNilO_some q4
  exact eok_of (hs p0) q5
theorem sf21 {c44 : List ty66.den → Bool → Option ((List ty66.den))} (h44 : Sp44 c44) : Sp21 (F21 c44) := fun p0 y hy => by
  refine spec_of (G := ent 44 (e44 c44) (gnil)) (ent_ok (ek44 h44) (gnil_ok)) 1000000 (fn := Try.f21) (by kernel_rfl) (by kernel_rfl) (X := X21) (by kernel_rfl) ?_
  rw [fo21, hy]
  rfl
noncomputable def M21 : List ty66.den → Option ((List ty66.den)) := F21 M44
theorem sm21 : Sp21 M21 := sf21 sm44

/-! ### 23: lariat/lariatref13.Negate -/
def X23 : Aux := ⟨[], []⟩
def T23 {R : Type} (B : Ops) (c44 : List ty66.den → Bool → Option ((List ty66.den))) (p0 : List ty66.den) (k : ((List ty66.den)) → Option R) : Option R :=
  ob (c44 p0 true) fun y0 =>
  k y0
theorem eq23 {R : Type} (B : Ops) (c44 : List ty66.den → Bool → Option ((List ty66.den))) (p0 : List ty66.den) (k : AV → Objs → Option R) (n : Nat) : afun tau B gl0 X23 (ent 44 (e44 c44) (gnil)) ow Try.f23 [.c (.list 66 ty66 p0)] [] k n = T23 B c44 p0 (fun y => k (.c (.own 500)) [(500, .row 66 ty66 y)]) := by kernel_rfl
theorem nt23 {R R' : Type} (B : Ops) (c44 : List ty66.den → Bool → Option ((List ty66.den))) (p0 : List ty66.den) (k0 : ((List ty66.den)) → Option R') (k : R' → Option R) : T23 B c44 p0 (fun y => ob (k0 y) k) = ob (T23 B c44 p0 k0) k := by
  unfold T23
  repeat' first | exact rfl | apply nat_cond | (apply nat_ob; intro)
def F23 (c44 : List ty66.den → Bool → Option ((List ty66.den))) (p0 : List ty66.den) : Option ((List ty66.den)) := T23 Ops.std c44 p0 some
theorem fo23 {R : Type} (c44 : List ty66.den → Bool → Option ((List ty66.den))) (p0 : List ty66.den) (k : AV → Objs → Option R) (n : Nat) : afun tau Ops.std gl0 X23 (ent 44 (e44 c44) (gnil)) ow Try.f23 [.c (.list 66 ty66 p0)] [] k n = ob (F23 c44 p0) (fun y => k (.c (.own 500)) [(500, .row 66 ty66 y)]) := by rw [eq23]; exact nt23 Ops.std c44 p0 some (fun y => k (.c (.own 500)) [(500, .row 66 ty66 y)])
def e23 {R : Type} (c : List ty66.den → Option ((List ty66.den))) : Ent R := fun args objs k =>
  oCons args fun a0 l0 => oC a0 fun x0 => cList 66 ty66 x0 fun p0 => oNil l0 <| oNilO objs <| ob (c p0) fun y => k (.c (.own 500)) [(500, .row 66 ty66 y)]
abbrev Sp23 (c : List ty66.den → Option ((List ty66.den))) : Prop := ∀ (p0 : List ty66.den) (y : (List ty66.den)), c p0 = some y → Spec Try.prog gl0 23 [.c (.list 66 ty66 p0)] [] (.c (.own 500)) [(500, .row 66 ty66 y)]
theorem ek23 {R : Type} {c : List ty66.den → Option ((List ty66.den))} (hs : Sp23 c) : EOk 23 (e23 (R := R) c) := fun args objs k r h => by
  unfold e23 at h
  obtain ⟨a0, l0, rfl, q1⟩ := oCons_some h
  obtain ⟨x0, rfl, q2⟩ := oC_some q1
  obtain ⟨p0, rfl, q3⟩ := cList_some q2
  obtain ⟨rfl, q4⟩ := oNil_some q3
  obtain ⟨rfl, q5⟩ := oNilO_some q4
  exact eok_of (hs p0) q5
theorem sf23 {c44 : List ty66.den → Bool → Option ((List ty66.den))} (h44 : Sp44 c44) : Sp23 (F23 c44) := fun p0 y hy => by
  refine spec_of (G := ent 44 (e44 c44) (gnil)) (ent_ok (ek44 h44) (gnil_ok)) 1000000 (fn := Try.f23) (by kernel_rfl) (by kernel_rfl) (X := X23) (by kernel_rfl) ?_
  rw [fo23, hy]
  rfl
noncomputable def M23 : List ty66.den → Option ((List ty66.den)) := F23 M44
theorem sm23 : Sp23 M23 := sf23 sm44

/-! ### 9: lariat/lariatlaw14.NnfTells -/
def X9 : Aux := ⟨[], []⟩
def T9 {R : Type} (B : Ops) (c27 : Option (Bool)) (c22 : List ty3.den → Option ((List UInt8))) (c31 : List UInt8 → Option ((List ty66.den))) (c34 : List ty3.den → Int → Option ((List ty66.den))) (c33 : List ty66.den → Option ((List ty66.den))) (c30 : List ty66.den → Option ((List ty66.den))) (c21 : List ty66.den → Option ((List ty66.den))) (c35 : List ty66.den → List ty66.den → Option (Bool)) (c23 : List ty66.den → Option ((List ty66.den))) (c32 : List ty66.den → Option (Bool)) (c36 : List ty66.den → Option (Bool)) (p0 : List ty3.den) (p1 : Int) (p2 : Bool) (k : (Bool) → Option R) : Option R :=
  ob (c27) fun y0 =>
  cond (!y0)
   (
    k false)
   (
    ob (c22 p0) fun y1 =>
    ob (c31 y1) fun y2 =>
    cond (p2)
     (
      ob (c34 p0 p1) fun y3 =>
      ob (c33 y3) fun y4 =>
      ob (c30 y3) fun y5 =>
      ob (c27) fun y6 =>
      cond (y6)
       (
        ob (c21 y3) fun y7 =>
        ob (c35 y4 y7) fun y8 =>
        cond (y8)
         (
          ob (c23 y3) fun y9 =>
          ob (c35 y5 y9) fun y10 =>
          cond (y10)
           (
            ob (c32 y3) fun y11 =>
            ob (c36 y3) fun y12 =>
            cond (y11 == y12)
             (
              cond (Ops.eq B (Nat.cast (List.length y4)) (0))
               (
                cond (Ops.eq B (Nat.cast (List.length y5)) (0))
                 (
                  k true)
                 (
                  ob (c32 y5) fun y13 =>
                  k y13))
               (
                ob (c32 y4) fun y13 =>
                cond (y13)
                 (
                  cond (Ops.eq B (Nat.cast (List.length y5)) (0))
                   (
                    k true)
                   (
                    ob (c32 y5) fun y14 =>
                    k y14))
                 (
                  k false)))
             (
              k false))
           (
            k false))
         (
          k false))
       (
        k false))
     (
      ob (c33 y2) fun y3 =>
      ob (c30 y2) fun y4 =>
      ob (c27) fun y5 =>
      cond (y5)
       (
        ob (c21 y2) fun y6 =>
        ob (c35 y3 y6) fun y7 =>
        cond (y7)
         (
          ob (c23 y2) fun y8 =>
          ob (c35 y4 y8) fun y9 =>
          cond (y9)
           (
            ob (c32 y2) fun y10 =>
            ob (c36 y2) fun y11 =>
            cond (y10 == y11)
             (
              cond (Ops.eq B (Nat.cast (List.length y3)) (0))
               (
                cond (Ops.eq B (Nat.cast (List.length y4)) (0))
                 (
                  k true)
                 (
                  ob (c32 y4) fun y12 =>
                  k y12))
               (
                ob (c32 y3) fun y12 =>
                cond (y12)
                 (
                  cond (Ops.eq B (Nat.cast (List.length y4)) (0))
                   (
                    k true)
                   (
                    ob (c32 y4) fun y13 =>
                    k y13))
                 (
                  k false)))
             (
              k false))
           (
            k false))
         (
          k false))
       (
        k false)))
theorem eq9 {R : Type} (B : Ops) (c27 : Option (Bool)) (c22 : List ty3.den → Option ((List UInt8))) (c31 : List UInt8 → Option ((List ty66.den))) (c34 : List ty3.den → Int → Option ((List ty66.den))) (c33 : List ty66.den → Option ((List ty66.den))) (c30 : List ty66.den → Option ((List ty66.den))) (c21 : List ty66.den → Option ((List ty66.den))) (c35 : List ty66.den → List ty66.den → Option (Bool)) (c23 : List ty66.den → Option ((List ty66.den))) (c32 : List ty66.den → Option (Bool)) (c36 : List ty66.den → Option (Bool)) (p0 : List ty3.den) (p1 : Int) (p2 : Bool) (k : AV → Objs → Option R) (n : Nat) : afun tau B gl0 X9 (ent 27 (e27 c27) (ent 22 (e22 c22) (ent 31 (e31 c31) (ent 34 (e34 c34) (ent 33 (e33 c33) (ent 30 (e30 c30) (ent 21 (e21 c21) (ent 35 (e35 c35) (ent 23 (e23 c23) (ent 32 (e32 c32) (ent 36 (e36 c36) (gnil)))))))))))) ow Try.f9 [.c (.list 3 ty3 p0), .c (.int .i64 p1), .c (.bool p2)] [] k n = T9 B c27 c22 c31 c34 c33 c30 c21 c35 c23 c32 c36 p0 p1 p2 (fun y => k (.c (.bool y)) []) := by kernel_rfl
theorem nt9 {R R' : Type} (B : Ops) (c27 : Option (Bool)) (c22 : List ty3.den → Option ((List UInt8))) (c31 : List UInt8 → Option ((List ty66.den))) (c34 : List ty3.den → Int → Option ((List ty66.den))) (c33 : List ty66.den → Option ((List ty66.den))) (c30 : List ty66.den → Option ((List ty66.den))) (c21 : List ty66.den → Option ((List ty66.den))) (c35 : List ty66.den → List ty66.den → Option (Bool)) (c23 : List ty66.den → Option ((List ty66.den))) (c32 : List ty66.den → Option (Bool)) (c36 : List ty66.den → Option (Bool)) (p0 : List ty3.den) (p1 : Int) (p2 : Bool) (k0 : (Bool) → Option R') (k : R' → Option R) : T9 B c27 c22 c31 c34 c33 c30 c21 c35 c23 c32 c36 p0 p1 p2 (fun y => ob (k0 y) k) = ob (T9 B c27 c22 c31 c34 c33 c30 c21 c35 c23 c32 c36 p0 p1 p2 k0) k := by
  unfold T9
  repeat' first | exact rfl | apply nat_cond | (apply nat_ob; intro)
def F9 (c27 : Option (Bool)) (c22 : List ty3.den → Option ((List UInt8))) (c31 : List UInt8 → Option ((List ty66.den))) (c34 : List ty3.den → Int → Option ((List ty66.den))) (c33 : List ty66.den → Option ((List ty66.den))) (c30 : List ty66.den → Option ((List ty66.den))) (c21 : List ty66.den → Option ((List ty66.den))) (c35 : List ty66.den → List ty66.den → Option (Bool)) (c23 : List ty66.den → Option ((List ty66.den))) (c32 : List ty66.den → Option (Bool)) (c36 : List ty66.den → Option (Bool)) (p0 : List ty3.den) (p1 : Int) (p2 : Bool) : Option (Bool) := T9 Ops.std c27 c22 c31 c34 c33 c30 c21 c35 c23 c32 c36 p0 p1 p2 some
theorem fo9 {R : Type} (c27 : Option (Bool)) (c22 : List ty3.den → Option ((List UInt8))) (c31 : List UInt8 → Option ((List ty66.den))) (c34 : List ty3.den → Int → Option ((List ty66.den))) (c33 : List ty66.den → Option ((List ty66.den))) (c30 : List ty66.den → Option ((List ty66.den))) (c21 : List ty66.den → Option ((List ty66.den))) (c35 : List ty66.den → List ty66.den → Option (Bool)) (c23 : List ty66.den → Option ((List ty66.den))) (c32 : List ty66.den → Option (Bool)) (c36 : List ty66.den → Option (Bool)) (p0 : List ty3.den) (p1 : Int) (p2 : Bool) (k : AV → Objs → Option R) (n : Nat) : afun tau Ops.std gl0 X9 (ent 27 (e27 c27) (ent 22 (e22 c22) (ent 31 (e31 c31) (ent 34 (e34 c34) (ent 33 (e33 c33) (ent 30 (e30 c30) (ent 21 (e21 c21) (ent 35 (e35 c35) (ent 23 (e23 c23) (ent 32 (e32 c32) (ent 36 (e36 c36) (gnil)))))))))))) ow Try.f9 [.c (.list 3 ty3 p0), .c (.int .i64 p1), .c (.bool p2)] [] k n = ob (F9 c27 c22 c31 c34 c33 c30 c21 c35 c23 c32 c36 p0 p1 p2) (fun y => k (.c (.bool y)) []) := by rw [eq9]; exact nt9 Ops.std c27 c22 c31 c34 c33 c30 c21 c35 c23 c32 c36 p0 p1 p2 some (fun y => k (.c (.bool y)) [])
def e9 {R : Type} (c : List ty3.den → Int → Bool → Option (Bool)) : Ent R := fun args objs k =>
  oCons args fun a0 l0 => oC a0 fun x0 => cList 3 ty3 x0 fun p0 => oCons l0 fun a1 l1 => oC a1 fun x1 => cInt .i64 x1 fun p1 => oCons l1 fun a2 l2 => oC a2 fun x2 => cBool x2 fun p2 => oNil l2 <| oNilO objs <| ob (c p0 p1 p2) fun y => k (.c (.bool y)) []
abbrev Sp9 (c : List ty3.den → Int → Bool → Option (Bool)) : Prop := ∀ (p0 : List ty3.den) (p1 : Int) (p2 : Bool) (y : Bool), c p0 p1 p2 = some y → Spec Try.prog gl0 9 [.c (.list 3 ty3 p0), .c (.int .i64 p1), .c (.bool p2)] [] (.c (.bool y)) []
theorem ek9 {R : Type} {c : List ty3.den → Int → Bool → Option (Bool)} (hs : Sp9 c) : EOk 9 (e9 (R := R) c) := fun args objs k r h => by
  unfold e9 at h
  obtain ⟨a0, l0, rfl, q1⟩ := oCons_some h
  obtain ⟨x0, rfl, q2⟩ := oC_some q1
  obtain ⟨p0, rfl, q3⟩ := cList_some q2
  obtain ⟨a1, l1, rfl, q4⟩ := oCons_some q3
  obtain ⟨x1, rfl, q5⟩ := oC_some q4
  obtain ⟨p1, rfl, q6⟩ := cInt_some q5
  obtain ⟨a2, l2, rfl, q7⟩ := oCons_some q6
  obtain ⟨x2, rfl, q8⟩ := oC_some q7
  obtain ⟨p2, rfl, q9⟩ := cBool_some q8
  obtain ⟨rfl, q10⟩ := oNil_some q9
  obtain ⟨rfl, q11⟩ := oNilO_some q10
  exact eok_of (hs p0 p1 p2) q11
theorem sf9 {c27 : Option (Bool)} {c22 : List ty3.den → Option ((List UInt8))} {c31 : List UInt8 → Option ((List ty66.den))} {c34 : List ty3.den → Int → Option ((List ty66.den))} {c33 : List ty66.den → Option ((List ty66.den))} {c30 : List ty66.den → Option ((List ty66.den))} {c21 : List ty66.den → Option ((List ty66.den))} {c35 : List ty66.den → List ty66.den → Option (Bool)} {c23 : List ty66.den → Option ((List ty66.den))} {c32 : List ty66.den → Option (Bool)} {c36 : List ty66.den → Option (Bool)} (h27 : Sp27 c27) (h22 : Sp22 c22) (h31 : Sp31 c31) (h34 : Sp34 c34) (h33 : Sp33 c33) (h30 : Sp30 c30) (h21 : Sp21 c21) (h35 : Sp35 c35) (h23 : Sp23 c23) (h32 : Sp32 c32) (h36 : Sp36 c36) : Sp9 (F9 c27 c22 c31 c34 c33 c30 c21 c35 c23 c32 c36) := fun p0 p1 p2 y hy => by
  refine spec_of (G := ent 27 (e27 c27) (ent 22 (e22 c22) (ent 31 (e31 c31) (ent 34 (e34 c34) (ent 33 (e33 c33) (ent 30 (e30 c30) (ent 21 (e21 c21) (ent 35 (e35 c35) (ent 23 (e23 c23) (ent 32 (e32 c32) (ent 36 (e36 c36) (gnil)))))))))))) (ent_ok (ek27 h27) (ent_ok (ek22 h22) (ent_ok (ek31 h31) (ent_ok (ek34 h34) (ent_ok (ek33 h33) (ent_ok (ek30 h30) (ent_ok (ek21 h21) (ent_ok (ek35 h35) (ent_ok (ek23 h23) (ent_ok (ek32 h32) (ent_ok (ek36 h36) (gnil_ok)))))))))))) 1000000 (fn := Try.f9) (by kernel_rfl) (by kernel_rfl) (X := X9) (by kernel_rfl) ?_
  rw [fo9, hy]
  rfl
noncomputable def M9 : List ty3.den → Int → Bool → Option (Bool) := F9 M27 M22 M31 M34 M33 M30 M21 M35 M23 M32 M36
theorem sm9 : Sp9 M9 := sf9 sm27 sm22 sm31 sm34 sm33 sm30 sm21 sm35 sm23 sm32 sm36
end Go.Proofs.Ytfdlgmbbflmbgaa.Av
