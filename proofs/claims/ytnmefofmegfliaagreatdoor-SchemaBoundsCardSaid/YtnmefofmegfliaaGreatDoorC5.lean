/- What the law's function reaches, by a table that the kernel compares with the translation: no condition. -/
import Derived.Test.YtnmefofmegfliaaGreatDoorRows
import Derived.Test.YtnmefofmegfliaaGreatDoorE5
set_option linter.unusedVariables false
set_option linter.unusedSimpArgs false
set_option linter.unusedSectionVars false
namespace Go.Proofs.YtnmefofmegfliaaGreatDoor.SchemaBounds
open Go Go.L Go.RowKit Go.Proofs
set_option maxRecDepth 100000
def chunk0 : List Nat := [3, 4, 5, 9, 24, 54, 53, 56, 162, 264, 344, 345, 346, 423, 493, 564, 612, 631, 565, 616, 659, 567, 566, 613, 614, 615, 424, 494, 425, 495, 568, 617, 347, 426, 496, 497, 498, 499, 501, 502, 500, 237, 427, 503, 462, 504, 569, 570, 618, 619, 620, 660, 621, 301, 341, 419, 420, 478, 489, 490, 421, 422, 491, 492, 562, 563, 622, 624, 661, 684, 696, 697, 326, 412, 466, 413, 467, 327, 685, 698, 328, 623, 625, 626, 571, 627, 662, 686, 687, 628, 663, 688, 664, 665, 156, 260, 689, 666, 572, 629, 574, 632, 673, 692, 700, 538, 573, 630, 668, 667, 670, 669, 672, 691, 699, 690, 671, 464, 55, 59, 57, 60, 172, 164, 265, 173, 267, 268, 266, 269, 348, 58, 174, 281, 175, 356, 350, 370, 444, 528, 165, 270, 352, 430, 506, 505, 507, 575, 633, 636, 409, 465, 634, 576, 577, 635, 674, 578, 579, 580, 637, 675, 693, 701, 410, 428, 429, 349, 351, 353, 355, 354, 163, 167, 272]
theorem cg0 : (chunk0.flatMap fun g => ((Tryz.prog.funcs[g]?).bind (·.body)).elim [] Code.globalsNamed) = [1, 1, 1, 0, 2, 3, 6, 7, 4, 5] := by kernel_rfl
end Go.Proofs.YtnmefofmegfliaaGreatDoor.SchemaBounds
namespace Go.Proofs.YtnmefofmegfliaaGreatDoor.SchemaBounds
open Go Go.L Go.RowKit Go.Proofs
set_option maxRecDepth 100000
def chunk1 : List Nat := [271, 273, 357, 431, 508, 435, 360, 511, 512, 582, 510, 515, 581, 638, 509, 513, 584, 583, 514, 432, 433, 434, 358, 516, 359, 436, 517, 361, 171, 166, 168, 169, 274, 280, 363, 364, 404, 459, 460, 367, 441, 442, 440, 437, 518, 365, 366, 439, 438, 362, 275, 276, 90, 277, 170, 27, 62, 63, 47, 135, 240, 333, 145, 249, 241, 137, 206, 207, 243, 242, 192, 324, 406, 407, 463, 408, 325, 411, 138, 136, 139, 245, 244, 334, 140, 141, 247, 246, 335, 142, 248, 147, 250, 143, 64, 65, 178, 282, 283, 179, 193, 284, 285, 286, 288, 371, 445, 289, 372, 373, 446, 374, 259, 323, 405, 461, 530, 531, 589, 532, 533, 534, 535, 536, 537, 287, 290, 292, 291, 375, 447, 293, 294, 295, 296, 297, 298, 376, 448, 299, 300, 66, 67, 68, 180, 302, 303, 378, 377, 449, 304, 379, 450, 313, 93, 204, 205, 208, 209, 210, 211, 305, 306, 380, 452, 451, 529, 381, 309, 307, 308, 382, 114, 310, 311]
theorem cg1 : (chunk1.flatMap fun g => ((Tryz.prog.funcs[g]?).bind (·.body)).elim [] Code.globalsNamed) = [] := by kernel_rfl
end Go.Proofs.YtnmefofmegfliaaGreatDoor.SchemaBounds
