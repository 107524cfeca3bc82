/- What the law's function reaches, by a table that the kernel compares with the translation: no condition. -/
import Derived.Test.YtnmefofmegfliaaGreatDoorRows
import Derived.Test.YtnmefofmegfliaaGreatDoorE5
set_option linter.unusedVariables false
set_option linter.unusedSimpArgs false
set_option linter.unusedSectionVars false
namespace Go.Proofs.YtnmefofmegfliaaGreatDoor.SchemaBounds
open Go Go.L Go.RowKit Go.Proofs
set_option maxRecDepth 100000
def chunk2 : List Nat := [312, 181, 314, 384, 383, 453, 315, 385, 454, 455, 456, 457, 182, 94, 96, 212, 213, 214, 215, 216, 217, 218, 183, 69, 70, 184, 316, 386, 388, 389, 458, 399, 391, 387, 317, 194, 402, 390, 392, 395, 396, 393, 394, 397, 398, 400, 401, 71, 72, 73, 78, 185, 318, 223, 238, 186, 319, 403, 189, 85, 197, 187, 320, 226, 329, 79, 188, 321, 74, 75, 190, 322, 191, 82, 196, 81, 46, 195, 76, 77, 80, 83, 84, 86, 87, 88, 89, 91, 200, 198, 199, 92, 203, 201, 202, 279, 369, 416, 477, 443, 519, 525, 588, 520, 585, 521, 540, 541, 522, 586, 587, 639, 523, 524, 526, 527, 278, 368, 6, 7, 12, 13, 15, 14, 16, 28, 95, 219, 220, 221, 17, 29, 97, 19, 42, 41, 98, 222, 149, 251, 99, 100, 101, 224, 103, 102, 21, 225, 30, 104, 105, 31, 106, 107, 227, 330, 228, 32, 108, 18, 33, 34, 109, 229, 230, 113, 235, 331, 414, 332, 415, 468, 474, 544, 469]
theorem cg2 : (chunk2.flatMap fun g => ((Tryz.prog.funcs[g]?).bind (·.body)).elim [] Code.globalsNamed) = [] := by kernel_rfl
end Go.Proofs.YtnmefofmegfliaaGreatDoor.SchemaBounds
namespace Go.Proofs.YtnmefofmegfliaaGreatDoor.SchemaBounds
open Go Go.L Go.RowKit Go.Proofs
set_option maxRecDepth 100000
def chunk3 : List Nat := [539, 470, 471, 542, 543, 590, 472, 473, 475, 476, 236, 231, 232, 116, 239, 110, 234, 233, 111, 153, 254, 253, 255, 256, 336, 257, 258, 338, 337, 339, 417, 340, 418, 479, 480, 481, 482, 483, 547, 594, 595, 546, 592, 591, 593, 640, 676, 694, 641, 597, 642, 601, 545, 484, 550, 606, 553, 605, 549, 596, 598, 643, 677, 599, 600, 602, 644, 645, 678, 695, 702, 679, 646, 680, 647, 603, 560, 609, 657, 610, 658, 611, 608, 604, 648, 681, 649, 650, 682, 683, 651, 652, 653, 654, 655, 656, 548, 485, 486, 487, 159, 262, 154, 488, 552, 551, 554, 607, 555, 556, 557, 558, 559, 561, 152, 112, 61, 177, 176, 35, 36, 23, 48, 144, 146, 148, 49, 26, 151, 150, 252, 50, 51, 155, 157, 261, 342, 161, 263, 343, 158, 52, 160, 37, 38, 115, 39, 40, 117, 20, 43, 118, 119, 121, 120, 122, 123, 124, 125, 44, 126, 127, 128, 129, 130, 131, 45, 132, 133, 134, 10, 25, 11, 8, 22]
theorem cg3 : (chunk3.flatMap fun g => ((Tryz.prog.funcs[g]?).bind (·.body)).elim [] Code.globalsNamed) = [] := by kernel_rfl
end Go.Proofs.YtnmefofmegfliaaGreatDoor.SchemaBounds
