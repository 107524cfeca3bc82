/- What the law's function reaches, by a table that the kernel compares with the translation: no condition. -/
import Derived.Test.YtjfkcglgdpjkmaaGreatDoorRows
import Derived.Test.YtjfkcglgdpjkmaaGreatDoorE5
set_option linter.unusedVariables false
set_option linter.unusedSimpArgs false
namespace Go.Proofs.YtjfkcglgdpjkmaaGreatDoor.SchemaNil
open Go Go.L Go.RowKit Go.Proofs
set_option maxRecDepth 100000
def chunk0 : List Nat := [3, 4, 19, 18, 21, 20, 22, 36, 81, 80, 53, 90, 89, 5, 23, 24, 54, 91, 204, 283, 101, 214, 205, 93, 180, 181, 207, 206, 208, 284, 362, 363, 441, 442, 443, 511, 364, 199, 270, 345, 414, 415, 416, 489, 547, 606, 658, 668, 607, 662, 687, 609, 608, 659, 660, 661, 490, 539, 491, 548, 610, 663, 417, 492, 549, 550, 551, 552, 554, 555, 553, 269, 493, 556, 557, 611, 604, 649, 650, 651, 685, 652, 316, 294, 371, 372, 457, 456, 458, 373, 374, 459, 460, 537, 538, 653, 655, 686, 704, 715, 716, 338, 409, 477, 410, 478, 339, 705, 717, 340, 654, 656, 657, 612, 664, 688, 706, 707, 665, 689, 708, 690, 691, 113, 225, 709, 692, 613, 666, 615, 669, 699, 712, 719, 614, 667, 694, 693, 696, 695, 698, 711, 718, 710, 697, 440, 203, 280, 510, 581, 273, 351, 282, 365, 444, 366, 285, 367, 94, 92, 95, 210, 209, 286, 96, 97, 212, 211, 287, 98, 213, 103, 215, 99, 55, 100, 102, 104, 56, 105]
theorem cg0 : (chunk0.flatMap fun g => ((Tryz.prog.funcs[g]?).bind (·.body)).elim [] Code.globalsNamed) = [1, 1, 1, 0, 2, 3, 6, 7, 4, 5] := by kernel_rfl
end Go.Proofs.YtjfkcglgdpjkmaaGreatDoor.SchemaNil
namespace Go.Proofs.YtjfkcglgdpjkmaaGreatDoor.SchemaNil
open Go Go.L Go.RowKit Go.Proofs
set_option maxRecDepth 100000
def chunk1 : List Nat := [216, 107, 106, 217, 57, 108, 110, 219, 218, 220, 221, 288, 222, 223, 290, 289, 291, 368, 292, 369, 445, 446, 447, 448, 449, 514, 585, 586, 513, 583, 582, 584, 630, 677, 702, 631, 588, 632, 592, 512, 450, 517, 597, 520, 596, 516, 587, 589, 633, 678, 590, 591, 593, 634, 635, 679, 703, 714, 680, 636, 681, 637, 594, 527, 600, 647, 601, 648, 602, 546, 599, 595, 638, 682, 639, 640, 683, 684, 641, 642, 643, 644, 645, 243, 646, 515, 451, 452, 453, 116, 227, 111, 454, 519, 518, 521, 598, 522, 523, 524, 525, 526, 528, 109, 58, 112, 224, 293, 370, 455, 529, 530, 603, 531, 377, 462, 532, 533, 534, 535, 536, 114, 226, 295, 118, 228, 296, 115, 59, 117, 6, 25, 26, 27, 47, 60, 61, 62, 63, 64, 7, 28, 29, 65, 119, 120, 121, 122, 123, 124, 66, 125, 126, 127, 128, 129, 130, 8, 30, 9, 31, 11, 32, 33, 67, 131, 132, 133, 134, 229, 297, 298, 230, 299, 300, 301, 303, 375, 461, 304]
theorem cg1 : (chunk1.flatMap fun g => ((Tryz.prog.funcs[g]?).bind (·.body)).elim [] Code.globalsNamed) = [] := by kernel_rfl
end Go.Proofs.YtjfkcglgdpjkmaaGreatDoor.SchemaNil
