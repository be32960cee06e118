/- Tables for the functions of this place: how they are called, hints for their joins and orders. Printed by a program of mine. -/
import Derived.Test.YteboddabjocpoaaProg
import Derived.Test.YteboddabjocpoaaAm6
import Derived.KernelRfl
set_option linter.all false
namespace Go.Am.Try
open Go Go.Am
set_option maxRecDepth 100000
def an3 : An := (.s .l (.s (.s .l (.c (.s .l .l) .l [2] [])) (.s .l (.s .l (.s (.s (.t (.lt 0 (.lt 2 (.rd 1 (.st (.alt 3 (.rd 4 (.lt 5 .nil)) .stop))))) [22, 23, 24, 25, 26] [27]) (.c (.s .l .l) .l [2] [])) (.s .l (.s (.s .l (.c (.s .l .l) .l [2] [])) (.s .l (.s .l (.s .l (.s (.s .l (.c (.s .l .l) .l [2] [])) (.s (.t (.lt 0 (.lt 1 (.lt 2 (.lt 3 (.lt 4 (.lt 5 (.lt 6 (.lt 7 (.lt 8 (.lt 9 (.lt 10 (.lt 11 (.lt 12 (.lt 13 (.lt 14 (.lt 15 (.lt 16 (.lt 17 (.lt 18 (.lt 21 (.lt 22 (.lt 23 (.lt 24 (.rd 25 (.st (.alt 19 (.rd 20 (.lt 26 (.lt 27 (.lt 28 (.lt 29 .nil))))) .stop)))))))))))))))))))))))))) [80, 81, 82, 83, 84, 85, 86, 87, 88, 89, 90, 91, 92, 93, 94, 95, 96, 97, 98, 99, 100, 101, 102, 103, 104, 105, 106, 107, 108] [2]) .l))))))))))))
def an4 : An := (.s .l (.s (.s .l (.c (.s .l .l) .l [2] [])) (.s .l (.s .l (.s (.s .l (.c (.s .l .l) .l [2] [])) (.s (.s .l (.b (.b (.s (.s .l (.c .l .l [] [])) (.s (.b (.s .l (.c (.s .l .l) .l [2] [])) [2, 29, 30, 31, 32, 33, 34] []) .l)) [2, 23, 24, 25, 26, 27, 28, 29, 30, 31, 32, 33, 34] [5]) [2, 5, 23, 24, 25, 26, 27, 28, 29, 30, 31, 32, 33, 34] [])) (.s (.s .l (.c (.s .l .l) .l [2] [])) (.s .l (.s (.s .l (.c (.s .l .l) .l [2, 52, 53, 54, 55, 56, 57, 58, 59, 60, 61] [])) (.s .l .l))))))))))
def an10 : An := (.s .l (.s .l .l))
def an11 : An := (.s .l (.s .l (.s (.s .l (.c (.s .l .l) .l [2, 8, 9, 10] [])) (.s .l .l))))
def an12 : An := (.s .l (.s (.s .l (.c (.s .l .l) .l [2] [])) (.s .l (.s (.s .l (.c (.s .l (.s .l (.c .l .l [] [3]))) .l [16, 17, 18, 19, 20, 21] [3])) (.s .l (.s (.b (.b (.s (.s .l (.c .l .l [] [])) (.b (.s .l .l) [25, 26, 27, 28, 29, 30, 31, 32, 33] [3, 4])) [23, 24, 25, 26, 27, 28, 29, 30, 31, 32, 33] [3, 4]) [23, 24, 25, 26, 27, 28, 29, 30, 31, 32, 33] [3, 4]) (.s .l .l)))))))
def an13 : An := (.s .l (.s .l (.s (.s .l (.c (.s .l .l) .l [2, 9] [])) (.s .l (.s (.s .l (.c .l .l [14, 15, 16] [4])) (.s (.b (.b (.s (.s .l (.c .l .l [] [])) (.b (.s .l .l) [19, 20, 21, 22, 23, 24, 25, 26, 27] [3, 4])) [17, 18, 19, 20, 21, 22, 23, 24, 25, 26, 27] [3, 4]) [17, 18, 19, 20, 21, 22, 23, 24, 25, 26, 27] [3, 4]) (.s .l .l)))))))
def an14 : An := (.s .l (.s (.s .l (.c (.s .l .l) .l [4, 5, 6] [])) (.s .l (.s (.s .l (.b (.b (.s (.s .l (.c .l .l [] [])) (.s (.b (.s .l (.s .l (.s (.s .l (.c .l .l [] [])) (.s (.s .l (.c (.s .l .l) .l [4, 5, 6] [])) (.s (.s .l (.c (.s .l .l) .l [4, 5, 6, 52, 53, 54, 55, 56, 57, 58, 59] [])) (.s .l .l)))))) [4, 5, 6, 9, 27, 28, 29, 30, 31, 32, 33, 34, 35, 36, 37, 38, 39, 40, 41, 42, 43, 44, 45, 46, 47, 48, 49, 50, 51, 52, 53, 54, 55, 56, 57, 58, 59, 60, 61, 62, 63, 64, 65] [7]) .l)) [4, 5, 6, 9, 15, 16, 17, 18, 19, 20, 21, 22, 23, 24, 25, 26, 27, 28, 29, 30, 31, 32, 33, 34, 35, 36, 37, 38, 39, 40, 41, 42, 43, 44, 45, 46, 47, 48, 49, 50, 51, 52, 53, 54, 55, 56, 57, 58, 59, 60, 61, 62, 63, 64, 65] [7, 8]) [4, 5, 6, 7, 8, 9, 15, 16, 17, 18, 19, 20, 21, 22, 23, 24, 25, 26, 27, 28, 29, 30, 31, 32, 33, 34, 35, 36, 37, 38, 39, 40, 41, 42, 43, 44, 45, 46, 47, 48, 49, 50, 51, 52, 53, 54, 55, 56, 57, 58, 59, 60, 61, 62, 63, 64, 65] [])) (.s .l .l)))))
def an15 : An := (.s .l (.s .l (.s .l (.s (.s .l (.c .l .l [18, 19, 20, 21, 22, 23] [5])) (.s (.s .l (.c .l .l [26, 27, 28, 29, 30] [5])) (.s .l .l))))))
def an16 : An := (.s .l (.s (.s .l (.c (.s .l .l) .l [4, 5, 6] [])) (.s .l (.s (.s .l (.b (.b (.s (.s .l (.c .l .l [] [])) (.s (.b (.s .l (.s .l (.s .l (.c (.s (.s .l (.c (.s .l .l) .l [4, 5, 6] [])) (.s (.s .l (.c (.s .l .l) .l [4, 5, 6, 55, 56, 57, 58, 59, 60, 61, 62] [])) (.s .l .l))) .l [4, 5, 6, 46, 47, 48, 49, 50, 51, 52, 53, 54, 55, 56, 57, 58, 59, 60, 61, 62, 63, 64, 65, 66, 67, 68] [])))) [4, 5, 6, 9, 30, 31, 32, 33, 34, 35, 36, 37, 38, 39, 40, 41, 42, 43, 44, 45, 46, 47, 48, 49, 50, 51, 52, 53, 54, 55, 56, 57, 58, 59, 60, 61, 62, 63, 64, 65, 66, 67, 68] [7]) .l)) [4, 5, 6, 9, 18, 19, 20, 21, 22, 23, 24, 25, 26, 27, 28, 29, 30, 31, 32, 33, 34, 35, 36, 37, 38, 39, 40, 41, 42, 43, 44, 45, 46, 47, 48, 49, 50, 51, 52, 53, 54, 55, 56, 57, 58, 59, 60, 61, 62, 63, 64, 65, 66, 67, 68] [7, 8]) [4, 5, 6, 7, 8, 9, 18, 19, 20, 21, 22, 23, 24, 25, 26, 27, 28, 29, 30, 31, 32, 33, 34, 35, 36, 37, 38, 39, 40, 41, 42, 43, 44, 45, 46, 47, 48, 49, 50, 51, 52, 53, 54, 55, 56, 57, 58, 59, 60, 61, 62, 63, 64, 65, 66, 67, 68] [])) (.s .l .l)))))
def an17 : An := (.s .l (.s .l (.s .l (.s (.s .l (.c .l .l [11, 12, 13, 14] [])) (.s (.s .l (.c .l .l [17, 18, 19, 20] [])) (.s .l .l))))))
def an18 : An := (.s .l (.s (.s .l (.c (.s .l .l) .l [2] [])) (.s (.s .l (.c (.s .l .l) .l [2, 17, 18] [])) (.s .l (.s .l (.s (.s .l (.c (.s .l (.s .l .l)) .l [7, 8, 23, 24, 25, 26, 27, 28, 29, 30, 31, 32] [3, 4])) (.s (.s .l (.c (.s .l (.s .l .l)) .l [9, 10, 36, 37, 38, 39, 40, 41, 42, 43, 44, 45] [3, 5])) (.s (.s .l (.c (.s .l (.s .l (.c .l .l [] [6]))) .l [49, 50, 51, 52, 53] [6])) (.s .l (.s (.s .l (.c .l .l [64, 65, 66, 67, 68, 69, 70] [3])) (.s .l .l)))))))))))
def an19 : An := (.s .l (.s (.s .l (.c (.s .l .l) .l [4] [])) (.s (.s .l (.b (.b (.s (.s .l (.c .l .l [] [])) (.s (.b (.s (.r [0, 1, 2, 4, 5, 6, 3, 7, 8]) (.c (.s .l .l) .l [4] [])) [4, 17, 18, 19, 20, 21, 22, 23, 24, 25] []) .l)) [4, 11, 12, 13, 14, 15, 16, 17, 18, 19, 20, 21, 22, 23, 24, 25] [5]) [4, 5, 11, 12, 13, 14, 15, 16, 17, 18, 19, 20, 21, 22, 23, 24, 25] [])) (.s .l .l))))
def an20 : An := (.s .l (.s .l (.s .l (.s (.s .l (.b (.b (.s (.s .l (.c .l .l [] [])) (.s (.b (.s .l (.c (.s .l .l) .l [2, 26] [])) [2, 20, 21, 22, 23, 24, 25, 26] []) .l)) [2, 14, 15, 16, 17, 18, 19, 20, 21, 22, 23, 24, 25, 26] [5]) [2, 5, 14, 15, 16, 17, 18, 19, 20, 21, 22, 23, 24, 25, 26] [])) (.s (.s .l (.c (.s .l .l) .l [2, 36] [])) (.s .l (.s (.s .l (.c .l .l [41, 42, 43, 44, 45, 46] [6, 7])) (.s (.s .l (.c (.s .l (.s .l .l)) .l [9, 10, 50, 51, 52, 53, 54, 55, 56, 57, 58, 59] [6, 8])) (.s (.s .l (.b (.s .l (.c (.s .l .l) (.s .l (.c (.s .l .l) (.s .l (.c (.s .l .l) (.s .l (.c (.s .l .l) (.s .l (.c (.s .l .l) (.s .l (.c (.s .l .l) .l [2, 103, 104] [])) [2, 96, 97, 98, 99, 100, 101, 102, 103, 104] [])) [2, 88, 89, 90, 91, 92, 93, 94, 95, 96, 97, 98, 99, 100, 101, 102, 103, 104] [])) [2, 81, 82, 83, 84, 85, 86, 87, 88, 89, 90, 91, 92, 93, 94, 95, 96, 97, 98, 99, 100, 101, 102, 103, 104] [])) [2, 73, 74, 75, 76, 77, 78, 79, 80, 81, 82, 83, 84, 85, 86, 87, 88, 89, 90, 91, 92, 93, 94, 95, 96, 97, 98, 99, 100, 101, 102, 103, 104] [])) [2, 64, 65, 66, 67, 68, 69, 70, 71, 72, 73, 74, 75, 76, 77, 78, 79, 80, 81, 82, 83, 84, 85, 86, 87, 88, 89, 90, 91, 92, 93, 94, 95, 96, 97, 98, 99, 100, 101, 102, 103, 104] [])) [2, 62, 63, 64, 65, 66, 67, 68, 69, 70, 71, 72, 73, 74, 75, 76, 77, 78, 79, 80, 81, 82, 83, 84, 85, 86, 87, 88, 89, 90, 91, 92, 93, 94, 95, 96, 97, 98, 99, 100, 101, 102, 103, 104] [])) (.s (.s .l (.c (.s .l .l) .l [2, 108, 109, 110, 111, 112, 113, 114, 115, 116, 117] [])) (.s .l .l)))))))))))
def an21 : An := (.s .l (.s (.s .l (.c (.s .l .l) .l [4] [])) (.s .l (.s .l (.s (.r [0, 2, 1, 3, 4, 5, 6, 8, 7, 9, 10, 11, 12, 13, 15, 14, 16, 17, 18, 19]) (.s (.b (.s .l (.c .l (.s .l (.c .l (.s .l (.c .l .l [44, 45, 46, 47, 48, 49, 65, 66, 67, 68, 69, 70, 71, 72, 73, 74, 75, 76] [6])) [44, 45, 46, 47, 48, 49, 56, 57, 58, 59, 60, 61, 62, 63, 64, 65, 66, 67, 68, 69, 70, 71, 72, 73, 74, 75, 76] [6])) [44, 45, 46, 47, 48, 49, 53, 54, 55, 56, 57, 58, 59, 60, 61, 62, 63, 64, 65, 66, 67, 68, 69, 70, 71, 72, 73, 74, 75, 76] [6])) [44, 45, 46, 47, 48, 49, 50, 51, 52, 53, 54, 55, 56, 57, 58, 59, 60, 61, 62, 63, 64, 65, 66, 67, 68, 69, 70, 71, 72, 73, 74, 75, 76] [6]) (.s .l .l)))))))
def an22 : An := (.s .l (.s (.s .l (.c (.s .l .l) .l [2, 6, 7] [])) (.s .l .l)))
def an51 : An := (.s .l (.s .l (.s (.s .l (.b (.b (.s (.s .l (.c .l .l [] [])) (.s (.b .l [18, 19, 20, 21, 22, 23, 24, 25, 26, 27] [3]) .l)) [8, 9, 10, 11, 12, 13, 14, 15, 16, 17, 18, 19, 20, 21, 22, 23, 24, 25, 26, 27] [3, 4]) [4, 8, 9, 10, 11, 12, 13, 14, 15, 16, 17, 18, 19, 20, 21, 22, 23, 24, 25, 26, 27] [3])) (.s .l .l))))
def an52 : An := (.s .l (.s .l .l))
def an53 : An := (.s .l (.s .l .l))
def an54 : An := (.s .l (.s (.s .l (.c (.s .l .l) .l [2, 5, 6, 7] [])) (.s .l .l)))
def an55 : An := (.s .l (.s .l .l))
def an56 : An := (.s .l (.s .l .l))
def an57 : An := (.s .l (.s (.s .l (.c (.s .l .l) .l [4] [])) (.s (.s .l (.c (.s .l .l) .l [4, 13, 14, 15, 16] [])) (.s .l (.s .l (.s .l (.s .l (.s .l .l))))))))
def an58 : An := (.s .l (.s .l (.s (.r [0, 1, 2, 5, 6, 7, 3, 4, 8, 9, 10, 11, 12]) (.s (.s (.r [0, 1, 2, 4, 5, 6, 3, 7, 8, 9]) (.c (.s (.r [0, 1, 2, 3, 5, 6, 7, 4, 8, 9, 10, 11, 12, 13, 14]) .l) .l [35, 36, 37, 38, 39, 40, 41, 42, 43, 44, 45, 46, 47, 48, 49, 50, 51, 52, 53, 54, 55, 56] [3])) (.s .l .l)))))
def an59 : An := (.s .l (.s .l .l))
def an60 : An := (.s .l (.s .l (.s .l .l)))
def an61 : An := (.s .l (.s (.b (.s .l (.c (.s .l .l) (.s .l (.c (.s .l .l) .l [2, 24, 25, 26, 27, 28, 29, 30] [])) [2, 14, 15, 16, 17, 18, 19, 20, 21, 22, 23, 24, 25, 26, 27, 28, 29, 30] [])) [2, 5, 6, 7, 8, 9, 10, 11, 12, 13, 14, 15, 16, 17, 18, 19, 20, 21, 22, 23, 24, 25, 26, 27, 28, 29, 30] []) (.s .l (.s .l .l))))
def an62 : An := (.s .l (.s .l (.s .l .l)))
def an63 : An := (.s .l (.s (.s .l (.c (.s .l .l) .l [4, 5, 8] [])) (.s .l .l)))
def an64 : An := (.s .l (.s (.s .l (.b (.s .l (.c (.s .l .l) (.s .l (.c (.s .l .l) (.s .l (.c (.s .l .l) (.s .l (.c (.s .l .l) (.s .l (.c (.s .l .l) .l [33, 34] [])) [29, 30, 31, 32, 33, 34] [])) [24, 25, 26, 27, 28, 29, 30, 31, 32, 33, 34] [])) [19, 20, 21, 22, 23, 24, 25, 26, 27, 28, 29, 30, 31, 32, 33, 34] [])) [13, 14, 15, 16, 17, 18, 19, 20, 21, 22, 23, 24, 25, 26, 27, 28, 29, 30, 31, 32, 33, 34] [])) [11, 12, 13, 14, 15, 16, 17, 18, 19, 20, 21, 22, 23, 24, 25, 26, 27, 28, 29, 30, 31, 32, 33, 34] [])) (.s .l .l)))
def an65 : An := (.s .l (.s (.b (.s .l (.c (.s .l .l) (.s .l (.c (.s .l .l) .l [2, 31, 32, 33] [])) [2, 12, 13, 14, 15, 16, 17, 18, 19, 20, 21, 22, 23, 24, 25, 26, 27, 28, 29, 30, 31, 32, 33] [])) [2, 3, 4, 5, 6, 7, 8, 9, 10, 11, 12, 13, 14, 15, 16, 17, 18, 19, 20, 21, 22, 23, 24, 25, 26, 27, 28, 29, 30, 31, 32, 33] []) (.s .l .l)))
def an66 : An := (.s .l (.s .l .l))
def an67 : An := (.s .l (.s .l .l))
def an68 : An := (.s .l (.s (.s .l (.c (.s .l .l) .l [4, 5, 8, 9] [])) (.s .l .l)))
def an69 : An := (.s .l (.s (.s .l (.c (.s .l (.s .l .l)) .l [6, 9, 10, 11, 12, 13, 14] [])) (.s .l (.s .l .l))))
def an70 : An := (.s .l (.s (.b (.s .l (.c (.s .l .l) (.s .l (.c (.s .l .l) .l [2, 24, 25, 26, 27, 28, 29, 30] [])) [2, 14, 15, 16, 17, 18, 19, 20, 21, 22, 23, 24, 25, 26, 27, 28, 29, 30] [])) [2, 5, 6, 7, 8, 9, 10, 11, 12, 13, 14, 15, 16, 17, 18, 19, 20, 21, 22, 23, 24, 25, 26, 27, 28, 29, 30] []) (.s .l (.s .l .l))))
def an71 : An := (.s .l (.s .l .l))
def an72 : An := (.s .l (.s (.s .l (.b (.s .l (.c (.s .l .l) (.s (.s .l (.c .l .l [9] [7])) (.c (.s .l .l) (.s .l (.c (.s .l .l) (.s .l (.c (.s .l .l) (.s .l (.c (.s .l .l) (.s (.s .l (.c .l .l [18] [16])) (.c (.s .l .l) (.s .l (.c (.s .l .l) (.s .l (.c (.s .l .l) (.s .l (.c (.s .l .l) .l [2, 3] [])) [2, 3, 23, 24] [])) [2, 3, 21, 22, 23, 24] [])) [2, 3, 19, 20, 21, 22, 23, 24] [])) [2, 3, 16, 17, 18, 19, 20, 21, 22, 23, 24] [])) [2, 3, 14, 15, 16, 17, 18, 19, 20, 21, 22, 23, 24] [])) [2, 3, 12, 13, 14, 15, 16, 17, 18, 19, 20, 21, 22, 23, 24] [])) [2, 3, 10, 11, 12, 13, 14, 15, 16, 17, 18, 19, 20, 21, 22, 23, 24] [])) [2, 3, 7, 8, 9, 10, 11, 12, 13, 14, 15, 16, 17, 18, 19, 20, 21, 22, 23, 24] [])) [2, 3, 5, 6, 7, 8, 9, 10, 11, 12, 13, 14, 15, 16, 17, 18, 19, 20, 21, 22, 23, 24] [])) (.s .l .l)))
def an73 : An := (.s .l (.s (.s .l (.c (.s .l .l) .l [6, 8, 9, 10] [])) (.s .l .l)))
def an74 : An := (.s .l (.s .l .l))
def an103 : An := (.s .l (.s (.s .l (.b (.s .l (.c (.s .l .l) (.s (.s .l (.c .l .l [9] [7])) (.c (.s .l .l) (.s .l (.c (.s .l .l) (.s .l (.c (.s .l .l) (.s .l (.c (.s .l .l) .l [2, 3] [])) [2, 3, 14, 15] [])) [2, 3, 12, 13, 14, 15] [])) [2, 3, 10, 11, 12, 13, 14, 15] [])) [2, 3, 7, 8, 9, 10, 11, 12, 13, 14, 15] [])) [2, 3, 5, 6, 7, 8, 9, 10, 11, 12, 13, 14, 15] [])) (.s .l .l)))
def an104 : An := (.s .l (.s .l .l))
def an105 : An := (.s .l (.s .l .l))
def an106 : An := (.s .l (.s (.s .l (.b (.b (.s .l (.s (.c .l .l [] []) (.s (.b (.s .l (.s .l (.c (.s .l .l) .l [4, 17] []))) [4, 5, 10, 11, 12, 13, 14, 15, 16, 17] []) .l))) [4, 5, 9, 10, 11, 12, 13, 14, 15, 16, 17, 18] [8]) [4, 5, 8, 9, 10, 11, 12, 13, 14, 15, 16, 17, 18] [])) (.s .l .l)))
def anT (f : Nat) : An :=
 (bif Nat.blt f 57 then
 (bif Nat.blt f 18 then
 (bif Nat.blt f 13 then
 (bif Nat.blt f 10 then
 (bif Nat.blt f 4 then
 (bif Nat.beq f 3 then an3 else .l)
 else
 (bif Nat.beq f 4 then an4 else .l))
 else
 (bif Nat.blt f 11 then
 (bif Nat.beq f 10 then an10 else .l)
 else
 (bif Nat.blt f 12 then
 (bif Nat.beq f 11 then an11 else .l)
 else
 (bif Nat.beq f 12 then an12 else .l))))
 else
 (bif Nat.blt f 15 then
 (bif Nat.blt f 14 then
 (bif Nat.beq f 13 then an13 else .l)
 else
 (bif Nat.beq f 14 then an14 else .l))
 else
 (bif Nat.blt f 16 then
 (bif Nat.beq f 15 then an15 else .l)
 else
 (bif Nat.blt f 17 then
 (bif Nat.beq f 16 then an16 else .l)
 else
 (bif Nat.beq f 17 then an17 else .l)))))
 else
 (bif Nat.blt f 51 then
 (bif Nat.blt f 20 then
 (bif Nat.blt f 19 then
 (bif Nat.beq f 18 then an18 else .l)
 else
 (bif Nat.beq f 19 then an19 else .l))
 else
 (bif Nat.blt f 21 then
 (bif Nat.beq f 20 then an20 else .l)
 else
 (bif Nat.blt f 22 then
 (bif Nat.beq f 21 then an21 else .l)
 else
 (bif Nat.beq f 22 then an22 else .l))))
 else
 (bif Nat.blt f 54 then
 (bif Nat.blt f 52 then
 (bif Nat.beq f 51 then an51 else .l)
 else
 (bif Nat.blt f 53 then
 (bif Nat.beq f 52 then an52 else .l)
 else
 (bif Nat.beq f 53 then an53 else .l)))
 else
 (bif Nat.blt f 55 then
 (bif Nat.beq f 54 then an54 else .l)
 else
 (bif Nat.blt f 56 then
 (bif Nat.beq f 55 then an55 else .l)
 else
 (bif Nat.beq f 56 then an56 else .l))))))
 else
 (bif Nat.blt f 68 then
 (bif Nat.blt f 62 then
 (bif Nat.blt f 59 then
 (bif Nat.blt f 58 then
 (bif Nat.beq f 57 then an57 else .l)
 else
 (bif Nat.beq f 58 then an58 else .l))
 else
 (bif Nat.blt f 60 then
 (bif Nat.beq f 59 then an59 else .l)
 else
 (bif Nat.blt f 61 then
 (bif Nat.beq f 60 then an60 else .l)
 else
 (bif Nat.beq f 61 then an61 else .l))))
 else
 (bif Nat.blt f 65 then
 (bif Nat.blt f 63 then
 (bif Nat.beq f 62 then an62 else .l)
 else
 (bif Nat.blt f 64 then
 (bif Nat.beq f 63 then an63 else .l)
 else
 (bif Nat.beq f 64 then an64 else .l)))
 else
 (bif Nat.blt f 66 then
 (bif Nat.beq f 65 then an65 else .l)
 else
 (bif Nat.blt f 67 then
 (bif Nat.beq f 66 then an66 else .l)
 else
 (bif Nat.beq f 67 then an67 else .l)))))
 else
 (bif Nat.blt f 73 then
 (bif Nat.blt f 70 then
 (bif Nat.blt f 69 then
 (bif Nat.beq f 68 then an68 else .l)
 else
 (bif Nat.beq f 69 then an69 else .l))
 else
 (bif Nat.blt f 71 then
 (bif Nat.beq f 70 then an70 else .l)
 else
 (bif Nat.blt f 72 then
 (bif Nat.beq f 71 then an71 else .l)
 else
 (bif Nat.beq f 72 then an72 else .l))))
 else
 (bif Nat.blt f 104 then
 (bif Nat.blt f 74 then
 (bif Nat.beq f 73 then an73 else .l)
 else
 (bif Nat.blt f 103 then
 (bif Nat.beq f 74 then an74 else .l)
 else
 (bif Nat.beq f 103 then an103 else .l)))
 else
 (bif Nat.blt f 105 then
 (bif Nat.beq f 104 then an104 else .l)
 else
 (bif Nat.blt f 106 then
 (bif Nat.beq f 105 then an105 else .l)
 else
 (bif Nat.beq f 106 then an106 else .l)))))))
def sigT (f : Nat) : Option SigD :=
 (bif Nat.blt f 60 then
 (bif Nat.blt f 17 then
 (bif Nat.blt f 13 then
 (bif Nat.blt f 11 then
 (bif Nat.beq f 10 then some { lend := true, args := [.li [.at_]], res := .at_, own := false } else none)
 else
 (bif Nat.blt f 12 then
 (bif Nat.beq f 11 then some { lend := true, args := [.li [.at_]], res := .at_, own := false } else none)
 else
 (bif Nat.beq f 12 then some { lend := true, args := [.at_], res := .li [.at_], own := true } else none)))
 else
 (bif Nat.blt f 15 then
 (bif Nat.blt f 14 then
 (bif Nat.beq f 13 then some { lend := true, args := [.at_], res := .li [.at_], own := true } else none)
 else
 (bif Nat.beq f 14 then some { lend := true, args := [.li [.at_], .at_], res := .tu [.at_, .at_, .at_], own := false } else none))
 else
 (bif Nat.blt f 16 then
 (bif Nat.beq f 15 then some { lend := true, args := [.li [.at_]], res := .tu [.li [.at_], .at_], own := false } else none)
 else
 (bif Nat.beq f 16 then some { lend := true, args := [.li [.at_], .at_], res := .tu [.at_, .at_, .at_], own := false } else none))))
 else
 (bif Nat.blt f 21 then
 (bif Nat.blt f 19 then
 (bif Nat.blt f 18 then
 (bif Nat.beq f 17 then some { lend := true, args := [.li [.at_]], res := .ag [.at_, .at_, .at_, .at_, .at_], own := false } else none)
 else
 (bif Nat.beq f 18 then some { lend := true, args := [.ag [.at_, .at_, .at_, .at_, .at_]], res := .li [.at_, .at_, .at_, .at_, .at_], own := false } else none))
 else
 (bif Nat.blt f 20 then
 (bif Nat.beq f 19 then some { lend := true, args := [.li [.at_, .at_, .at_, .at_, .at_], .li [.at_, .at_, .at_, .at_, .at_]], res := .at_, own := false } else none)
 else
 (bif Nat.beq f 20 then some { lend := true, args := [.ag [.at_, .at_, .at_, .at_, .at_]], res := .li [.at_, .at_, .at_, .at_, .at_], own := false } else none)))
 else
 (bif Nat.blt f 55 then
 (bif Nat.blt f 22 then
 (bif Nat.beq f 21 then some { lend := true, args := [.ag [.at_, .at_, .at_, .at_, .at_], .at_], res := .at_, own := false } else none)
 else
 (bif Nat.beq f 22 then some { lend := true, args := [.ag [.at_, .at_, .at_, .at_, .at_]], res := .at_, own := false } else none))
 else
 (bif Nat.blt f 56 then
 (bif Nat.beq f 55 then some { lend := true, args := [.at_, .at_, .at_], res := .at_, own := false } else none)
 else
 (bif Nat.beq f 56 then some { lend := true, args := [.at_, .at_, .at_], res := .at_, own := false } else none)))))
 else
 (bif Nat.blt f 71 then
 (bif Nat.blt f 65 then
 (bif Nat.blt f 62 then
 (bif Nat.blt f 61 then
 (bif Nat.beq f 60 then some { lend := true, args := [.ag [.at_, .at_, .at_, .at_, .at_]], res := .at_, own := false } else none)
 else
 (bif Nat.beq f 61 then some { lend := true, args := [.ag [.at_, .at_, .at_, .at_, .at_]], res := .li [.at_, .at_, .at_, .at_, .at_], own := false } else none))
 else
 (bif Nat.blt f 64 then
 (bif Nat.beq f 62 then some { lend := true, args := [.at_, .at_], res := .at_, own := false } else none)
 else
 (bif Nat.beq f 64 then some { lend := true, args := [.ag [.at_, .at_, .at_, .at_, .at_], .at_, .at_, .at_], res := .ag [.at_, .at_, .at_, .at_, .at_], own := false } else none)))
 else
 (bif Nat.blt f 67 then
 (bif Nat.blt f 66 then
 (bif Nat.beq f 65 then some { lend := true, args := [.ag [.at_, .at_, .at_, .at_, .at_]], res := .li [.at_], own := false } else none)
 else
 (bif Nat.beq f 66 then some { lend := true, args := [.at_], res := .at_, own := false } else none))
 else
 (bif Nat.blt f 70 then
 (bif Nat.beq f 67 then some { lend := true, args := [.at_], res := .at_, own := false } else none)
 else
 (bif Nat.beq f 70 then some { lend := true, args := [.ag [.at_, .at_, .at_, .at_, .at_]], res := .li [.at_, .at_, .at_, .at_, .at_], own := false } else none))))
 else
 (bif Nat.blt f 103 then
 (bif Nat.blt f 73 then
 (bif Nat.blt f 72 then
 (bif Nat.beq f 71 then some { lend := true, args := [.at_], res := .at_, own := false } else none)
 else
 (bif Nat.beq f 72 then some { lend := true, args := [.at_], res := .tu [.at_, .at_], own := false } else none))
 else
 (bif Nat.blt f 74 then
 (bif Nat.beq f 73 then some { lend := true, args := [.at_, .at_, .at_], res := .at_, own := false } else none)
 else
 (bif Nat.beq f 74 then some { lend := true, args := [.li [.at_], .at_], res := .at_, own := false } else none)))
 else
 (bif Nat.blt f 105 then
 (bif Nat.blt f 104 then
 (bif Nat.beq f 103 then some { lend := true, args := [.at_], res := .tu [.at_, .at_], own := false } else none)
 else
 (bif Nat.beq f 104 then some { lend := true, args := [.at_], res := .at_, own := false } else none))
 else
 (bif Nat.blt f 106 then
 (bif Nat.beq f 105 then some { lend := true, args := [.at_], res := .at_, own := false } else none)
 else
 (bif Nat.beq f 106 then some { lend := true, args := [.li [.at_], .at_], res := .at_, own := false } else none))))))
def litT (f : Nat) : Bool :=
 (bif Nat.blt f 68 then
 (bif Nat.blt f 63 then
 (bif Nat.beq f 61 then false else true)
 else
 (bif Nat.beq f 63 then false else true))
 else
 (bif Nat.blt f 70 then
 (bif Nat.beq f 68 then false else true)
 else
 (bif Nat.beq f 70 then false else true)))
def hereT (f : Nat) : Bool :=
 (bif Nat.blt f 57 then
 (bif Nat.blt f 18 then
 (bif Nat.blt f 13 then
 (bif Nat.blt f 10 then
 (bif Nat.blt f 4 then
 (bif Nat.beq f 3 then true else false)
 else
 (bif Nat.beq f 4 then true else false))
 else
 (bif Nat.blt f 11 then
 (bif Nat.beq f 10 then true else false)
 else
 (bif Nat.blt f 12 then
 (bif Nat.beq f 11 then true else false)
 else
 (bif Nat.beq f 12 then true else false))))
 else
 (bif Nat.blt f 15 then
 (bif Nat.blt f 14 then
 (bif Nat.beq f 13 then true else false)
 else
 (bif Nat.beq f 14 then true else false))
 else
 (bif Nat.blt f 16 then
 (bif Nat.beq f 15 then true else false)
 else
 (bif Nat.blt f 17 then
 (bif Nat.beq f 16 then true else false)
 else
 (bif Nat.beq f 17 then true else false)))))
 else
 (bif Nat.blt f 51 then
 (bif Nat.blt f 20 then
 (bif Nat.blt f 19 then
 (bif Nat.beq f 18 then true else false)
 else
 (bif Nat.beq f 19 then true else false))
 else
 (bif Nat.blt f 21 then
 (bif Nat.beq f 20 then true else false)
 else
 (bif Nat.blt f 22 then
 (bif Nat.beq f 21 then true else false)
 else
 (bif Nat.beq f 22 then true else false))))
 else
 (bif Nat.blt f 54 then
 (bif Nat.blt f 52 then
 (bif Nat.beq f 51 then true else false)
 else
 (bif Nat.blt f 53 then
 (bif Nat.beq f 52 then true else false)
 else
 (bif Nat.beq f 53 then true else false)))
 else
 (bif Nat.blt f 55 then
 (bif Nat.beq f 54 then true else false)
 else
 (bif Nat.blt f 56 then
 (bif Nat.beq f 55 then true else false)
 else
 (bif Nat.beq f 56 then true else false))))))
 else
 (bif Nat.blt f 68 then
 (bif Nat.blt f 62 then
 (bif Nat.blt f 59 then
 (bif Nat.blt f 58 then
 (bif Nat.beq f 57 then true else false)
 else
 (bif Nat.beq f 58 then true else false))
 else
 (bif Nat.blt f 60 then
 (bif Nat.beq f 59 then true else false)
 else
 (bif Nat.blt f 61 then
 (bif Nat.beq f 60 then true else false)
 else
 (bif Nat.beq f 61 then true else false))))
 else
 (bif Nat.blt f 65 then
 (bif Nat.blt f 63 then
 (bif Nat.beq f 62 then true else false)
 else
 (bif Nat.blt f 64 then
 (bif Nat.beq f 63 then true else false)
 else
 (bif Nat.beq f 64 then true else false)))
 else
 (bif Nat.blt f 66 then
 (bif Nat.beq f 65 then true else false)
 else
 (bif Nat.blt f 67 then
 (bif Nat.beq f 66 then true else false)
 else
 (bif Nat.beq f 67 then true else false)))))
 else
 (bif Nat.blt f 73 then
 (bif Nat.blt f 70 then
 (bif Nat.blt f 69 then
 (bif Nat.beq f 68 then true else false)
 else
 (bif Nat.beq f 69 then true else false))
 else
 (bif Nat.blt f 71 then
 (bif Nat.beq f 70 then true else false)
 else
 (bif Nat.blt f 72 then
 (bif Nat.beq f 71 then true else false)
 else
 (bif Nat.beq f 72 then true else false))))
 else
 (bif Nat.blt f 104 then
 (bif Nat.blt f 74 then
 (bif Nat.beq f 73 then true else false)
 else
 (bif Nat.blt f 103 then
 (bif Nat.beq f 74 then true else false)
 else
 (bif Nat.beq f 103 then true else false)))
 else
 (bif Nat.blt f 105 then
 (bif Nat.beq f 104 then true else false)
 else
 (bif Nat.blt f 106 then
 (bif Nat.beq f 105 then true else false)
 else
 (bif Nat.beq f 106 then true else false)))))))
def neuT (f : Nat) : Bool := match sigT f with | some sg => !sg.own | none => false
noncomputable def Fs (f : Nat) : Option RFD := match hereT f with | true => (match Go.Proofs.Try.prog.funcs[f]? with | some fn => resFD (tiOf Go.Proofs.Try.prog) neuT (litT f) (anT f) fn | none => none) | false => none
def orcT (_ : Nat) : Option Call1 := none
/-- Calls, k deep; shut in, so that nothing reckons them by itself. -/
noncomputable def ccBox : { c : Nat → Call1 // c = callD Fs sigT orcT } := Classical.choice ⟨⟨_, rfl⟩⟩
noncomputable def CC (k : Nat) : Call1 := ccBox.1 k
theorem CC_eq (k : Nat) : CC k = callD Fs sigT orcT k := congrFun ccBox.2 k
theorem CC_heap {k f : Nat} (hs : sigT f = none) (args : List V) (H : Heap) (K : V → Heap → Prop) : CC (k + 1) f args H K = bodyO (CC k) k (Fs f) args H K := by
  rw [CC_eq, CC_eq]
  exact call_heap rfl hs args H K
theorem CC_seal {k f : Nat} {sg : SigD} (hs : sigT f = some sg) {args bs : List V} {H : Heap} (h : sealCs sg.lend sg.lend sg.lend H sg.args args = some bs) (K : V → Heap → Prop) : CC (k + 1) f args H K = bodyO (CC k) k (Fs f) bs [] (backD sg H K) := by
  rw [CC_eq, CC_eq]
  exact call_seal rfl hs h K
attribute [irreducible] CC
end Go.Am.Try
