/- What the law's function reaches, by a table that the kernel compares with the translation: no condition. -/
import Derived.Test.YtjfkcglgdpjkmaaGreatDoorRows
import Derived.Test.YtjfkcglgdpjkmaaGreatDoorE5
set_option linter.unusedVariables false
set_option linter.unusedSimpArgs false
namespace Go.Proofs.YtjfkcglgdpjkmaaGreatDoor.SchemaNil
open Go Go.L Go.RowKit Go.Proofs
set_option maxRecDepth 100000
def chunk2 : List Nat := [376, 378, 302, 305, 307, 306, 379, 463, 308, 309, 310, 311, 312, 313, 380, 464, 314, 315, 135, 136, 137, 231, 317, 318, 382, 381, 465, 319, 383, 466, 328, 84, 178, 179, 182, 183, 184, 185, 320, 321, 384, 468, 467, 540, 385, 324, 322, 323, 386, 176, 325, 326, 327, 232, 329, 388, 387, 469, 330, 389, 470, 471, 472, 473, 233, 85, 87, 186, 187, 188, 189, 190, 191, 192, 234, 138, 139, 235, 331, 390, 392, 393, 474, 403, 395, 391, 332, 244, 406, 394, 396, 399, 400, 397, 398, 401, 402, 404, 405, 140, 141, 142, 147, 236, 333, 255, 82, 237, 334, 407, 240, 154, 247, 238, 335, 258, 341, 148, 239, 336, 143, 144, 241, 337, 408, 475, 476, 242, 151, 246, 150, 245, 145, 146, 149, 152, 153, 155, 156, 157, 158, 159, 160, 250, 248, 249, 161, 253, 251, 252, 50, 86, 193, 194, 195, 34, 68, 162, 254, 163, 164, 165, 256, 167, 166, 37, 257, 69, 168, 70, 169, 170, 39, 45, 259, 71, 171, 35, 72, 73]
theorem cg2 : (chunk2.flatMap fun g => ((Tryz.prog.funcs[g]?).bind (·.body)).elim [] Code.globalsNamed) = [] := by kernel_rfl
end Go.Proofs.YtjfkcglgdpjkmaaGreatDoor.SchemaNil
namespace Go.Proofs.YtjfkcglgdpjkmaaGreatDoor.SchemaNil
open Go Go.L Go.RowKit Go.Proofs
set_option maxRecDepth 100000
def chunk3 : List Nat := [172, 260, 261, 175, 267, 344, 266, 342, 411, 343, 413, 488, 412, 479, 485, 480, 541, 481, 542, 543, 482, 544, 545, 605, 483, 484, 486, 487, 268, 262, 263, 43, 83, 173, 265, 264, 174, 74, 75, 76, 77, 177, 78, 79, 10, 12, 40, 42, 41, 38, 13, 44, 46, 14, 15, 48, 49, 16, 17, 51, 88, 197, 196, 198, 202, 200, 272, 346, 281, 348, 349, 347, 350, 418, 201, 426, 420, 422, 496, 559, 558, 560, 616, 670, 673, 671, 617, 618, 672, 700, 619, 620, 621, 674, 701, 713, 720, 494, 495, 419, 421, 423, 425, 424, 271, 275, 353, 352, 354, 427, 497, 561, 501, 430, 564, 565, 623, 563, 568, 622, 675, 562, 566, 625, 624, 567, 498, 499, 500, 428, 569, 429, 502, 570, 431, 279, 274, 276, 277, 355, 361, 433, 434, 437, 507, 508, 506, 503, 571, 435, 436, 505, 504, 432, 356, 357, 358, 278, 360, 439, 509, 572, 578, 629, 573, 626, 574, 575, 627, 628, 676, 576, 577, 579, 580, 359, 438, 52]
theorem cg3 : (chunk3.flatMap fun g => ((Tryz.prog.funcs[g]?).bind (·.body)).elim [] Code.globalsNamed) = [] := by kernel_rfl
end Go.Proofs.YtjfkcglgdpjkmaaGreatDoor.SchemaNil
