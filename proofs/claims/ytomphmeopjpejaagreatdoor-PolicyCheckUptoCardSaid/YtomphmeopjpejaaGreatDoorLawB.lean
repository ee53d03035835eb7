/- What this seat's program has to do with the functions of the abstract machine: function by function the same code, or a contract of the library. -/
import Derived.Test.YtomphmeopjpejaaGreatDoorDataA
import Derived.Test.YtomphmeopjpejaaGreatDoorContractsA
import Derived.Test.YtomphmeopjpejaaGreatDoorLawA
import Derived.Test.YtomphmeopjpejaaGreatDoorRows
import Derived.Test.YtomphmeopjpejaaGreatDoorDataH
import Derived.Test.YtomphmeopjpejaaGreatDoorMachineC
import Derived.Tactics
import Derived.Tactics2
import Derived.Laws.Pointers
set_option linter.unusedVariables false
set_option linter.unusedSimpArgs false
namespace Go.Proofs.YtomphmeopjpejaaGreatDoor.tie
open Go Go.AM Go.AM.IR Go.Proofs
set_option maxRecDepth 100000
def num (f : Nat) : Nat := bif Nat.blt f 520 then (bif Nat.blt f 308 then (bif Nat.blt f 263 then (bif Nat.blt f 233 then (bif Nat.blt f 186 then (bif Nat.blt f 182 then (bif Nat.blt f 179 then (bif Nat.beq f 178 then 75 else 1000000) else (bif Nat.blt f 181 then (bif Nat.beq f 179 then 114 else 1000000) else (bif Nat.beq f 181 then 107 else 1000000))) else (bif Nat.blt f 184 then (bif Nat.blt f 183 then (bif Nat.beq f 182 then 153 else 1000000) else (bif Nat.beq f 183 then 148 else 1000000)) else (bif Nat.blt f 185 then (bif Nat.beq f 184 then 176 else 1000000) else (bif Nat.beq f 185 then 177 else 1000000)))) else (bif Nat.blt f 229 then (bif Nat.blt f 227 then (bif Nat.beq f 186 then 172 else 1000000) else (bif Nat.blt f 228 then (bif Nat.beq f 227 then 122 else 1000000) else (bif Nat.beq f 228 then 125 else 1000000))) else (bif Nat.blt f 231 then (bif Nat.blt f 230 then (bif Nat.beq f 229 then 87 else 1000000) else (bif Nat.beq f 230 then 92 else 1000000)) else (bif Nat.blt f 232 then (bif Nat.beq f 231 then 166 else 1000000) else (bif Nat.beq f 232 then 170 else 1000000))))) else (bif Nat.blt f 251 then (bif Nat.blt f 247 then (bif Nat.blt f 234 then (bif Nat.beq f 233 then 163 else 1000000) else (bif Nat.blt f 246 then (bif Nat.beq f 234 then 168 else 1000000) else (bif Nat.beq f 246 then 123 else 1000000))) else (bif Nat.blt f 249 then (bif Nat.blt f 248 then (bif Nat.beq f 247 then 159 else 1000000) else (bif Nat.beq f 248 then 126 else 1000000)) else (bif Nat.blt f 250 then (bif Nat.beq f 249 then 185 else 1000000) else (bif Nat.beq f 250 then 187 else 1000000)))) else (bif Nat.blt f 259 then (bif Nat.blt f 253 then (bif Nat.blt f 252 then (bif Nat.beq f 251 then 189 else 1000000) else (bif Nat.beq f 252 then 186 else 1000000)) else (bif Nat.blt f 258 then (bif Nat.beq f 253 then 190 else 1000000) else (bif Nat.beq f 258 then 160 else 1000000))) else (bif Nat.blt f 261 then (bif Nat.blt f 260 then (bif Nat.beq f 259 then 180 else 1000000) else (bif Nat.beq f 260 then 181 else 1000000)) else (bif Nat.blt f 262 then (bif Nat.beq f 261 then 182 else 1000000) else (bif Nat.beq f 262 then 203 else 1000000)))))) else (bif Nat.blt f 288 then (bif Nat.blt f 272 then (bif Nat.blt f 268 then (bif Nat.blt f 264 then (bif Nat.beq f 263 then 205 else 1000000) else (bif Nat.blt f 267 then (bif Nat.beq f 264 then 204 else 1000000) else (bif Nat.beq f 267 then 183 else 1000000))) else (bif Nat.blt f 270 then (bif Nat.blt f 269 then (bif Nat.beq f 268 then 196 else 1000000) else (bif Nat.beq f 269 then 197 else 1000000)) else (bif Nat.blt f 271 then (bif Nat.beq f 270 then 216 else 1000000) else (bif Nat.beq f 271 then 217 else 1000000)))) else (bif Nat.blt f 275 then (bif Nat.blt f 273 then (bif Nat.beq f 272 then 202 else 1000000) else (bif Nat.blt f 274 then (bif Nat.beq f 273 then 218 else 1000000) else (bif Nat.beq f 274 then 219 else 1000000))) else (bif Nat.blt f 286 then (bif Nat.blt f 285 then (bif Nat.beq f 275 then 215 else 1000000) else (bif Nat.beq f 285 then 211 else 1000000)) else (bif Nat.blt f 287 then (bif Nat.beq f 286 then 198 else 1000000) else (bif Nat.beq f 287 then 199 else 1000000))))) else (bif Nat.blt f 295 then (bif Nat.blt f 291 then (bif Nat.blt f 289 then (bif Nat.beq f 288 then 200 else 1000000) else (bif Nat.blt f 290 then (bif Nat.beq f 289 then 201 else 1000000) else (bif Nat.beq f 290 then 226 else 1000000))) else (bif Nat.blt f 293 then (bif Nat.blt f 292 then (bif Nat.beq f 291 then 227 else 1000000) else (bif Nat.beq f 292 then 229 else 1000000)) else (bif Nat.blt f 294 then (bif Nat.beq f 293 then 230 else 1000000) else (bif Nat.beq f 294 then 231 else 1000000)))) else (bif Nat.blt f 299 then (bif Nat.blt f 297 then (bif Nat.blt f 296 then (bif Nat.beq f 295 then 232 else 1000000) else (bif Nat.beq f 296 then 233 else 1000000)) else (bif Nat.blt f 298 then (bif Nat.beq f 297 then 222 else 1000000) else (bif Nat.beq f 298 then 224 else 1000000))) else (bif Nat.blt f 306 then (bif Nat.blt f 305 then (bif Nat.beq f 299 then 225 else 1000000) else (bif Nat.beq f 305 then 210 else 1000000)) else (bif Nat.blt f 307 then (bif Nat.beq f 306 then 212 else 1000000) else (bif Nat.beq f 307 then 213 else 1000000))))))) else (bif Nat.blt f 451 then (bif Nat.blt f 334 then (bif Nat.blt f 316 then (bif Nat.blt f 311 then (bif Nat.blt f 309 then (bif Nat.beq f 308 then 214 else 1000000) else (bif Nat.blt f 310 then (bif Nat.beq f 309 then 236 else 1000000) else (bif Nat.beq f 310 then 237 else 1000000))) else (bif Nat.blt f 313 then (bif Nat.blt f 312 then (bif Nat.beq f 311 then 238 else 1000000) else (bif Nat.beq f 312 then 239 else 1000000)) else (bif Nat.blt f 315 then (bif Nat.beq f 313 then 235 else 1000000) else (bif Nat.beq f 315 then 220 else 1000000)))) else (bif Nat.blt f 325 then (bif Nat.blt f 317 then (bif Nat.beq f 316 then 221 else 1000000) else (bif Nat.blt f 318 then (bif Nat.beq f 317 then 240 else 1000000) else (bif Nat.beq f 318 then 241 else 1000000))) else (bif Nat.blt f 332 then (bif Nat.blt f 326 then (bif Nat.beq f 325 then 28 else 1000000) else (bif Nat.beq f 326 then 81 else 1000000)) else (bif Nat.blt f 333 then (bif Nat.beq f 332 then 45 else 1000000) else (bif Nat.beq f 333 then 49 else 1000000))))) else (bif Nat.blt f 346 then (bif Nat.blt f 339 then (bif Nat.blt f 337 then (bif Nat.beq f 334 then 130 else 1000000) else (bif Nat.blt f 338 then (bif Nat.beq f 337 then 88 else 1000000) else (bif Nat.beq f 338 then 93 else 1000000))) else (bif Nat.blt f 344 then (bif Nat.blt f 340 then (bif Nat.beq f 339 then 162 else 1000000) else (bif Nat.beq f 340 then 164 else 1000000)) else (bif Nat.blt f 345 then (bif Nat.beq f 344 then 127 else 1000000) else (bif Nat.beq f 345 then 184 else 1000000)))) else (bif Nat.blt f 414 then (bif Nat.blt f 349 then (bif Nat.blt f 347 then (bif Nat.beq f 346 then 188 else 1000000) else (bif Nat.beq f 347 then 206 else 1000000)) else (bif Nat.blt f 405 then (bif Nat.beq f 349 then 146 else 1000000) else (bif Nat.beq f 405 then 13 else 1000000))) else (bif Nat.blt f 435 then (bif Nat.blt f 418 then (bif Nat.beq f 414 then 14 else 1000000) else (bif Nat.beq f 418 then 15 else 1000000)) else (bif Nat.blt f 444 then (bif Nat.beq f 435 then 21 else 1000000) else (bif Nat.beq f 444 then 12 else 1000000)))))) else (bif Nat.blt f 501 then (bif Nat.blt f 466 then (bif Nat.blt f 454 then (bif Nat.blt f 452 then (bif Nat.beq f 451 then 11 else 1000000) else (bif Nat.blt f 453 then (bif Nat.beq f 452 then 46 else 1000000) else (bif Nat.beq f 453 then 47 else 1000000))) else (bif Nat.blt f 458 then (bif Nat.blt f 457 then (bif Nat.beq f 454 then 48 else 1000000) else (bif Nat.beq f 457 then 50 else 1000000)) else (bif Nat.blt f 459 then (bif Nat.beq f 458 then 51 else 1000000) else (bif Nat.beq f 459 then 52 else 1000000)))) else (bif Nat.blt f 497 then (bif Nat.blt f 476 then (bif Nat.blt f 475 then (bif Nat.beq f 466 then 53 else 1000000) else (bif Nat.beq f 475 then 169 else 1000000)) else (bif Nat.blt f 479 then (bif Nat.beq f 476 then 17 else 1000000) else (bif Nat.beq f 479 then 16 else 1000000))) else (bif Nat.blt f 499 then (bif Nat.blt f 498 then (bif Nat.beq f 497 then 40 else 1000000) else (bif Nat.beq f 498 then 41 else 1000000)) else (bif Nat.blt f 500 then (bif Nat.beq f 499 then 42 else 1000000) else (bif Nat.beq f 500 then 43 else 1000000))))) else (bif Nat.blt f 512 then (bif Nat.blt f 508 then (bif Nat.blt f 506 then (bif Nat.beq f 501 then 44 else 1000000) else (bif Nat.blt f 507 then (bif Nat.beq f 506 then 19 else 1000000) else (bif Nat.beq f 507 then 22 else 1000000))) else (bif Nat.blt f 510 then (bif Nat.blt f 509 then (bif Nat.beq f 508 then 23 else 1000000) else (bif Nat.beq f 509 then 24 else 1000000)) else (bif Nat.blt f 511 then (bif Nat.beq f 510 then 25 else 1000000) else (bif Nat.beq f 511 then 26 else 1000000)))) else (bif Nat.blt f 516 then (bif Nat.blt f 514 then (bif Nat.blt f 513 then (bif Nat.beq f 512 then 27 else 1000000) else (bif Nat.beq f 513 then 29 else 1000000)) else (bif Nat.blt f 515 then (bif Nat.beq f 514 then 30 else 1000000) else (bif Nat.beq f 515 then 31 else 1000000))) else (bif Nat.blt f 518 then (bif Nat.blt f 517 then (bif Nat.beq f 516 then 32 else 1000000) else (bif Nat.beq f 517 then 33 else 1000000)) else (bif Nat.blt f 519 then (bif Nat.beq f 518 then 34 else 1000000) else (bif Nat.beq f 519 then 35 else 1000000)))))))) else (bif Nat.blt f 623 then (bif Nat.blt f 581 then (bif Nat.blt f 553 then (bif Nat.blt f 527 then (bif Nat.blt f 523 then (bif Nat.blt f 521 then (bif Nat.beq f 520 then 36 else 1000000) else (bif Nat.blt f 522 then (bif Nat.beq f 521 then 37 else 1000000) else (bif Nat.beq f 522 then 38 else 1000000))) else (bif Nat.blt f 525 then (bif Nat.blt f 524 then (bif Nat.beq f 523 then 39 else 1000000) else (bif Nat.beq f 524 then 89 else 1000000)) else (bif Nat.blt f 526 then (bif Nat.beq f 525 then 90 else 1000000) else (bif Nat.beq f 526 then 91 else 1000000)))) else (bif Nat.blt f 540 then (bif Nat.blt f 528 then (bif Nat.beq f 527 then 94 else 1000000) else (bif Nat.blt f 529 then (bif Nat.beq f 528 then 95 else 1000000) else (bif Nat.beq f 529 then 96 else 1000000))) else (bif Nat.blt f 542 then (bif Nat.blt f 541 then (bif Nat.beq f 540 then 97 else 1000000) else (bif Nat.beq f 541 then 98 else 1000000)) else (bif Nat.blt f 543 then (bif Nat.beq f 542 then 99 else 1000000) else (bif Nat.beq f 543 then 100 else 1000000))))) else (bif Nat.blt f 572 then (bif Nat.blt f 556 then (bif Nat.blt f 554 then (bif Nat.beq f 553 then 58 else 1000000) else (bif Nat.blt f 555 then (bif Nat.beq f 554 then 54 else 1000000) else (bif Nat.beq f 555 then 55 else 1000000))) else (bif Nat.blt f 566 then (bif Nat.blt f 557 then (bif Nat.beq f 556 then 56 else 1000000) else (bif Nat.beq f 557 then 57 else 1000000)) else (bif Nat.blt f 571 then (bif Nat.beq f 566 then 18 else 1000000) else (bif Nat.beq f 571 then 82 else 1000000)))) else (bif Nat.blt f 577 then (bif Nat.blt f 574 then (bif Nat.blt f 573 then (bif Nat.beq f 572 then 83 else 1000000) else (bif Nat.beq f 573 then 84 else 1000000)) else (bif Nat.blt f 575 then (bif Nat.beq f 574 then 85 else 1000000) else (bif Nat.beq f 575 then 86 else 1000000))) else (bif Nat.blt f 579 then (bif Nat.blt f 578 then (bif Nat.beq f 577 then 74 else 1000000) else (bif Nat.beq f 578 then 76 else 1000000)) else (bif Nat.blt f 580 then (bif Nat.beq f 579 then 77 else 1000000) else (bif Nat.beq f 580 then 78 else 1000000)))))) else (bif Nat.blt f 595 then (bif Nat.blt f 588 then (bif Nat.blt f 584 then (bif Nat.blt f 582 then (bif Nat.beq f 581 then 79 else 1000000) else (bif Nat.blt f 583 then (bif Nat.beq f 582 then 80 else 1000000) else (bif Nat.beq f 583 then 124 else 1000000))) else (bif Nat.blt f 586 then (bif Nat.blt f 585 then (bif Nat.beq f 584 then 128 else 1000000) else (bif Nat.beq f 585 then 129 else 1000000)) else (bif Nat.blt f 587 then (bif Nat.beq f 586 then 131 else 1000000) else (bif Nat.beq f 587 then 132 else 1000000)))) else (bif Nat.blt f 591 then (bif Nat.blt f 589 then (bif Nat.beq f 588 then 133 else 1000000) else (bif Nat.blt f 590 then (bif Nat.beq f 589 then 134 else 1000000) else (bif Nat.beq f 590 then 135 else 1000000))) else (bif Nat.blt f 593 then (bif Nat.blt f 592 then (bif Nat.beq f 591 then 136 else 1000000) else (bif Nat.beq f 592 then 137 else 1000000)) else (bif Nat.blt f 594 then (bif Nat.beq f 593 then 138 else 1000000) else (bif Nat.beq f 594 then 112 else 1000000))))) else (bif Nat.blt f 602 then (bif Nat.blt f 598 then (bif Nat.blt f 596 then (bif Nat.beq f 595 then 139 else 1000000) else (bif Nat.blt f 597 then (bif Nat.beq f 596 then 113 else 1000000) else (bif Nat.beq f 597 then 140 else 1000000))) else (bif Nat.blt f 600 then (bif Nat.blt f 599 then (bif Nat.beq f 598 then 101 else 1000000) else (bif Nat.beq f 599 then 102 else 1000000)) else (bif Nat.blt f 601 then (bif Nat.beq f 600 then 103 else 1000000) else (bif Nat.beq f 601 then 104 else 1000000)))) else (bif Nat.blt f 619 then (bif Nat.blt f 617 then (bif Nat.blt f 616 then (bif Nat.beq f 602 then 105 else 1000000) else (bif Nat.beq f 616 then 115 else 1000000)) else (bif Nat.blt f 618 then (bif Nat.beq f 617 then 116 else 1000000) else (bif Nat.beq f 618 then 117 else 1000000))) else (bif Nat.blt f 621 then (bif Nat.blt f 620 then (bif Nat.beq f 619 then 118 else 1000000) else (bif Nat.beq f 620 then 119 else 1000000)) else (bif Nat.blt f 622 then (bif Nat.beq f 621 then 120 else 1000000) else (bif Nat.beq f 622 then 121 else 1000000))))))) else (bif Nat.blt f 656 then (bif Nat.blt f 637 then (bif Nat.blt f 630 then (bif Nat.blt f 626 then (bif Nat.blt f 624 then (bif Nat.beq f 623 then 106 else 1000000) else (bif Nat.blt f 625 then (bif Nat.beq f 624 then 108 else 1000000) else (bif Nat.beq f 625 then 109 else 1000000))) else (bif Nat.blt f 628 then (bif Nat.blt f 627 then (bif Nat.beq f 626 then 110 else 1000000) else (bif Nat.beq f 627 then 111 else 1000000)) else (bif Nat.blt f 629 then (bif Nat.beq f 628 then 161 else 1000000) else (bif Nat.beq f 629 then 165 else 1000000)))) else (bif Nat.blt f 633 then (bif Nat.blt f 631 then (bif Nat.beq f 630 then 152 else 1000000) else (bif Nat.blt f 632 then (bif Nat.beq f 631 then 167 else 1000000) else (bif Nat.beq f 632 then 141 else 1000000))) else (bif Nat.blt f 635 then (bif Nat.blt f 634 then (bif Nat.beq f 633 then 142 else 1000000) else (bif Nat.beq f 634 then 143 else 1000000)) else (bif Nat.blt f 636 then (bif Nat.beq f 635 then 144 else 1000000) else (bif Nat.beq f 636 then 145 else 1000000))))) else (bif Nat.blt f 647 then (bif Nat.blt f 643 then (bif Nat.blt f 641 then (bif Nat.beq f 637 then 147 else 1000000) else (bif Nat.blt f 642 then (bif Nat.beq f 641 then 154 else 1000000) else (bif Nat.beq f 642 then 155 else 1000000))) else (bif Nat.blt f 645 then (bif Nat.blt f 644 then (bif Nat.beq f 643 then 156 else 1000000) else (bif Nat.beq f 644 then 157 else 1000000)) else (bif Nat.blt f 646 then (bif Nat.beq f 645 then 158 else 1000000) else (bif Nat.beq f 646 then 149 else 1000000)))) else (bif Nat.blt f 652 then (bif Nat.blt f 649 then (bif Nat.blt f 648 then (bif Nat.beq f 647 then 150 else 1000000) else (bif Nat.beq f 648 then 151 else 1000000)) else (bif Nat.blt f 651 then (bif Nat.beq f 649 then 171 else 1000000) else (bif Nat.beq f 651 then 178 else 1000000))) else (bif Nat.blt f 654 then (bif Nat.blt f 653 then (bif Nat.beq f 652 then 179 else 1000000) else (bif Nat.beq f 653 then 173 else 1000000)) else (bif Nat.blt f 655 then (bif Nat.beq f 654 then 174 else 1000000) else (bif Nat.beq f 655 then 175 else 1000000)))))) else (bif Nat.blt f 671 then (bif Nat.blt f 663 then (bif Nat.blt f 659 then (bif Nat.blt f 657 then (bif Nat.beq f 656 then 195 else 1000000) else (bif Nat.blt f 658 then (bif Nat.beq f 657 then 191 else 1000000) else (bif Nat.beq f 658 then 192 else 1000000))) else (bif Nat.blt f 661 then (bif Nat.blt f 660 then (bif Nat.beq f 659 then 193 else 1000000) else (bif Nat.beq f 660 then 194 else 1000000)) else (bif Nat.blt f 662 then (bif Nat.beq f 661 then 207 else 1000000) else (bif Nat.beq f 662 then 3 else 1000000)))) else (bif Nat.blt f 667 then (bif Nat.blt f 665 then (bif Nat.blt f 664 then (bif Nat.beq f 663 then 4 else 1000000) else (bif Nat.beq f 664 then 5 else 1000000)) else (bif Nat.blt f 666 then (bif Nat.beq f 665 then 6 else 1000000) else (bif Nat.beq f 666 then 7 else 1000000))) else (bif Nat.blt f 669 then (bif Nat.blt f 668 then (bif Nat.beq f 667 then 8 else 1000000) else (bif Nat.beq f 668 then 9 else 1000000)) else (bif Nat.blt f 670 then (bif Nat.beq f 669 then 10 else 1000000) else (bif Nat.beq f 670 then 20 else 1000000))))) else (bif Nat.blt f 678 then (bif Nat.blt f 674 then (bif Nat.blt f 672 then (bif Nat.beq f 671 then 59 else 1000000) else (bif Nat.blt f 673 then (bif Nat.beq f 672 then 60 else 1000000) else (bif Nat.beq f 673 then 61 else 1000000))) else (bif Nat.blt f 676 then (bif Nat.blt f 675 then (bif Nat.beq f 674 then 62 else 1000000) else (bif Nat.beq f 675 then 63 else 1000000)) else (bif Nat.blt f 677 then (bif Nat.beq f 676 then 64 else 1000000) else (bif Nat.beq f 677 then 65 else 1000000)))) else (bif Nat.blt f 682 then (bif Nat.blt f 680 then (bif Nat.blt f 679 then (bif Nat.beq f 678 then 66 else 1000000) else (bif Nat.beq f 679 then 67 else 1000000)) else (bif Nat.blt f 681 then (bif Nat.beq f 680 then 68 else 1000000) else (bif Nat.beq f 681 then 69 else 1000000))) else (bif Nat.blt f 684 then (bif Nat.blt f 683 then (bif Nat.beq f 682 then 70 else 1000000) else (bif Nat.beq f 683 then 71 else 1000000)) else (bif Nat.blt f 685 then (bif Nat.beq f 684 then 72 else 1000000) else (bif Nat.beq f 685 then 73 else 1000000))))))))
def fid (f : Nat) : Nat := bif Nat.blt f 120 then (bif Nat.blt f 61 then (bif Nat.blt f 32 then (bif Nat.blt f 17 then (bif Nat.blt f 10 then (bif Nat.blt f 6 then (bif Nat.blt f 4 then (bif Nat.beq f 3 then 662 else 1000000) else (bif Nat.blt f 5 then (bif Nat.beq f 4 then 663 else 1000000) else (bif Nat.beq f 5 then 664 else 1000000))) else (bif Nat.blt f 8 then (bif Nat.blt f 7 then (bif Nat.beq f 6 then 665 else 1000000) else (bif Nat.beq f 7 then 666 else 1000000)) else (bif Nat.blt f 9 then (bif Nat.beq f 8 then 667 else 1000000) else (bif Nat.beq f 9 then 668 else 1000000)))) else (bif Nat.blt f 13 then (bif Nat.blt f 11 then (bif Nat.beq f 10 then 669 else 1000000) else (bif Nat.blt f 12 then (bif Nat.beq f 11 then 451 else 1000000) else (bif Nat.beq f 12 then 444 else 1000000))) else (bif Nat.blt f 15 then (bif Nat.blt f 14 then (bif Nat.beq f 13 then 405 else 1000000) else (bif Nat.beq f 14 then 414 else 1000000)) else (bif Nat.blt f 16 then (bif Nat.beq f 15 then 418 else 1000000) else (bif Nat.beq f 16 then 479 else 1000000))))) else (bif Nat.blt f 24 then (bif Nat.blt f 20 then (bif Nat.blt f 18 then (bif Nat.beq f 17 then 476 else 1000000) else (bif Nat.blt f 19 then (bif Nat.beq f 18 then 566 else 1000000) else (bif Nat.beq f 19 then 506 else 1000000))) else (bif Nat.blt f 22 then (bif Nat.blt f 21 then (bif Nat.beq f 20 then 670 else 1000000) else (bif Nat.beq f 21 then 435 else 1000000)) else (bif Nat.blt f 23 then (bif Nat.beq f 22 then 507 else 1000000) else (bif Nat.beq f 23 then 508 else 1000000)))) else (bif Nat.blt f 28 then (bif Nat.blt f 26 then (bif Nat.blt f 25 then (bif Nat.beq f 24 then 509 else 1000000) else (bif Nat.beq f 25 then 510 else 1000000)) else (bif Nat.blt f 27 then (bif Nat.beq f 26 then 511 else 1000000) else (bif Nat.beq f 27 then 512 else 1000000))) else (bif Nat.blt f 30 then (bif Nat.blt f 29 then (bif Nat.beq f 28 then 325 else 1000000) else (bif Nat.beq f 29 then 513 else 1000000)) else (bif Nat.blt f 31 then (bif Nat.beq f 30 then 514 else 1000000) else (bif Nat.beq f 31 then 515 else 1000000)))))) else (bif Nat.blt f 46 then (bif Nat.blt f 39 then (bif Nat.blt f 35 then (bif Nat.blt f 33 then (bif Nat.beq f 32 then 516 else 1000000) else (bif Nat.blt f 34 then (bif Nat.beq f 33 then 517 else 1000000) else (bif Nat.beq f 34 then 518 else 1000000))) else (bif Nat.blt f 37 then (bif Nat.blt f 36 then (bif Nat.beq f 35 then 519 else 1000000) else (bif Nat.beq f 36 then 520 else 1000000)) else (bif Nat.blt f 38 then (bif Nat.beq f 37 then 521 else 1000000) else (bif Nat.beq f 38 then 522 else 1000000)))) else (bif Nat.blt f 42 then (bif Nat.blt f 40 then (bif Nat.beq f 39 then 523 else 1000000) else (bif Nat.blt f 41 then (bif Nat.beq f 40 then 497 else 1000000) else (bif Nat.beq f 41 then 498 else 1000000))) else (bif Nat.blt f 44 then (bif Nat.blt f 43 then (bif Nat.beq f 42 then 499 else 1000000) else (bif Nat.beq f 43 then 500 else 1000000)) else (bif Nat.blt f 45 then (bif Nat.beq f 44 then 501 else 1000000) else (bif Nat.beq f 45 then 332 else 1000000))))) else (bif Nat.blt f 53 then (bif Nat.blt f 49 then (bif Nat.blt f 47 then (bif Nat.beq f 46 then 452 else 1000000) else (bif Nat.blt f 48 then (bif Nat.beq f 47 then 453 else 1000000) else (bif Nat.beq f 48 then 454 else 1000000))) else (bif Nat.blt f 51 then (bif Nat.blt f 50 then (bif Nat.beq f 49 then 333 else 1000000) else (bif Nat.beq f 50 then 457 else 1000000)) else (bif Nat.blt f 52 then (bif Nat.beq f 51 then 458 else 1000000) else (bif Nat.beq f 52 then 459 else 1000000)))) else (bif Nat.blt f 57 then (bif Nat.blt f 55 then (bif Nat.blt f 54 then (bif Nat.beq f 53 then 466 else 1000000) else (bif Nat.beq f 54 then 554 else 1000000)) else (bif Nat.blt f 56 then (bif Nat.beq f 55 then 555 else 1000000) else (bif Nat.beq f 56 then 556 else 1000000))) else (bif Nat.blt f 59 then (bif Nat.blt f 58 then (bif Nat.beq f 57 then 557 else 1000000) else (bif Nat.beq f 58 then 553 else 1000000)) else (bif Nat.blt f 60 then (bif Nat.beq f 59 then 671 else 1000000) else (bif Nat.beq f 60 then 672 else 1000000))))))) else (bif Nat.blt f 90 then (bif Nat.blt f 75 then (bif Nat.blt f 68 then (bif Nat.blt f 64 then (bif Nat.blt f 62 then (bif Nat.beq f 61 then 673 else 1000000) else (bif Nat.blt f 63 then (bif Nat.beq f 62 then 674 else 1000000) else (bif Nat.beq f 63 then 675 else 1000000))) else (bif Nat.blt f 66 then (bif Nat.blt f 65 then (bif Nat.beq f 64 then 676 else 1000000) else (bif Nat.beq f 65 then 677 else 1000000)) else (bif Nat.blt f 67 then (bif Nat.beq f 66 then 678 else 1000000) else (bif Nat.beq f 67 then 679 else 1000000)))) else (bif Nat.blt f 71 then (bif Nat.blt f 69 then (bif Nat.beq f 68 then 680 else 1000000) else (bif Nat.blt f 70 then (bif Nat.beq f 69 then 681 else 1000000) else (bif Nat.beq f 70 then 682 else 1000000))) else (bif Nat.blt f 73 then (bif Nat.blt f 72 then (bif Nat.beq f 71 then 683 else 1000000) else (bif Nat.beq f 72 then 684 else 1000000)) else (bif Nat.blt f 74 then (bif Nat.beq f 73 then 685 else 1000000) else (bif Nat.beq f 74 then 577 else 1000000))))) else (bif Nat.blt f 82 then (bif Nat.blt f 78 then (bif Nat.blt f 76 then (bif Nat.beq f 75 then 178 else 1000000) else (bif Nat.blt f 77 then (bif Nat.beq f 76 then 578 else 1000000) else (bif Nat.beq f 77 then 579 else 1000000))) else (bif Nat.blt f 80 then (bif Nat.blt f 79 then (bif Nat.beq f 78 then 580 else 1000000) else (bif Nat.beq f 79 then 581 else 1000000)) else (bif Nat.blt f 81 then (bif Nat.beq f 80 then 582 else 1000000) else (bif Nat.beq f 81 then 326 else 1000000)))) else (bif Nat.blt f 86 then (bif Nat.blt f 84 then (bif Nat.blt f 83 then (bif Nat.beq f 82 then 571 else 1000000) else (bif Nat.beq f 83 then 572 else 1000000)) else (bif Nat.blt f 85 then (bif Nat.beq f 84 then 573 else 1000000) else (bif Nat.beq f 85 then 574 else 1000000))) else (bif Nat.blt f 88 then (bif Nat.blt f 87 then (bif Nat.beq f 86 then 575 else 1000000) else (bif Nat.beq f 87 then 229 else 1000000)) else (bif Nat.blt f 89 then (bif Nat.beq f 88 then 337 else 1000000) else (bif Nat.beq f 89 then 524 else 1000000)))))) else (bif Nat.blt f 105 then (bif Nat.blt f 97 then (bif Nat.blt f 93 then (bif Nat.blt f 91 then (bif Nat.beq f 90 then 525 else 1000000) else (bif Nat.blt f 92 then (bif Nat.beq f 91 then 526 else 1000000) else (bif Nat.beq f 92 then 230 else 1000000))) else (bif Nat.blt f 95 then (bif Nat.blt f 94 then (bif Nat.beq f 93 then 338 else 1000000) else (bif Nat.beq f 94 then 527 else 1000000)) else (bif Nat.blt f 96 then (bif Nat.beq f 95 then 528 else 1000000) else (bif Nat.beq f 96 then 529 else 1000000)))) else (bif Nat.blt f 101 then (bif Nat.blt f 99 then (bif Nat.blt f 98 then (bif Nat.beq f 97 then 540 else 1000000) else (bif Nat.beq f 98 then 541 else 1000000)) else (bif Nat.blt f 100 then (bif Nat.beq f 99 then 542 else 1000000) else (bif Nat.beq f 100 then 543 else 1000000))) else (bif Nat.blt f 103 then (bif Nat.blt f 102 then (bif Nat.beq f 101 then 598 else 1000000) else (bif Nat.beq f 102 then 599 else 1000000)) else (bif Nat.blt f 104 then (bif Nat.beq f 103 then 600 else 1000000) else (bif Nat.beq f 104 then 601 else 1000000))))) else (bif Nat.blt f 112 then (bif Nat.blt f 108 then (bif Nat.blt f 106 then (bif Nat.beq f 105 then 602 else 1000000) else (bif Nat.blt f 107 then (bif Nat.beq f 106 then 623 else 1000000) else (bif Nat.beq f 107 then 181 else 1000000))) else (bif Nat.blt f 110 then (bif Nat.blt f 109 then (bif Nat.beq f 108 then 624 else 1000000) else (bif Nat.beq f 109 then 625 else 1000000)) else (bif Nat.blt f 111 then (bif Nat.beq f 110 then 626 else 1000000) else (bif Nat.beq f 111 then 627 else 1000000)))) else (bif Nat.blt f 116 then (bif Nat.blt f 114 then (bif Nat.blt f 113 then (bif Nat.beq f 112 then 594 else 1000000) else (bif Nat.beq f 113 then 596 else 1000000)) else (bif Nat.blt f 115 then (bif Nat.beq f 114 then 179 else 1000000) else (bif Nat.beq f 115 then 616 else 1000000))) else (bif Nat.blt f 118 then (bif Nat.blt f 117 then (bif Nat.beq f 116 then 617 else 1000000) else (bif Nat.beq f 117 then 618 else 1000000)) else (bif Nat.blt f 119 then (bif Nat.beq f 118 then 619 else 1000000) else (bif Nat.beq f 119 then 620 else 1000000)))))))) else (bif Nat.blt f 178 then (bif Nat.blt f 149 then (bif Nat.blt f 134 then (bif Nat.blt f 127 then (bif Nat.blt f 123 then (bif Nat.blt f 121 then (bif Nat.beq f 120 then 621 else 1000000) else (bif Nat.blt f 122 then (bif Nat.beq f 121 then 622 else 1000000) else (bif Nat.beq f 122 then 227 else 1000000))) else (bif Nat.blt f 125 then (bif Nat.blt f 124 then (bif Nat.beq f 123 then 246 else 1000000) else (bif Nat.beq f 124 then 583 else 1000000)) else (bif Nat.blt f 126 then (bif Nat.beq f 125 then 228 else 1000000) else (bif Nat.beq f 126 then 248 else 1000000)))) else (bif Nat.blt f 130 then (bif Nat.blt f 128 then (bif Nat.beq f 127 then 344 else 1000000) else (bif Nat.blt f 129 then (bif Nat.beq f 128 then 584 else 1000000) else (bif Nat.beq f 129 then 585 else 1000000))) else (bif Nat.blt f 132 then (bif Nat.blt f 131 then (bif Nat.beq f 130 then 334 else 1000000) else (bif Nat.beq f 131 then 586 else 1000000)) else (bif Nat.blt f 133 then (bif Nat.beq f 132 then 587 else 1000000) else (bif Nat.beq f 133 then 588 else 1000000))))) else (bif Nat.blt f 141 then (bif Nat.blt f 137 then (bif Nat.blt f 135 then (bif Nat.beq f 134 then 589 else 1000000) else (bif Nat.blt f 136 then (bif Nat.beq f 135 then 590 else 1000000) else (bif Nat.beq f 136 then 591 else 1000000))) else (bif Nat.blt f 139 then (bif Nat.blt f 138 then (bif Nat.beq f 137 then 592 else 1000000) else (bif Nat.beq f 138 then 593 else 1000000)) else (bif Nat.blt f 140 then (bif Nat.beq f 139 then 595 else 1000000) else (bif Nat.beq f 140 then 597 else 1000000)))) else (bif Nat.blt f 145 then (bif Nat.blt f 143 then (bif Nat.blt f 142 then (bif Nat.beq f 141 then 632 else 1000000) else (bif Nat.beq f 142 then 633 else 1000000)) else (bif Nat.blt f 144 then (bif Nat.beq f 143 then 634 else 1000000) else (bif Nat.beq f 144 then 635 else 1000000))) else (bif Nat.blt f 147 then (bif Nat.blt f 146 then (bif Nat.beq f 145 then 636 else 1000000) else (bif Nat.beq f 146 then 349 else 1000000)) else (bif Nat.blt f 148 then (bif Nat.beq f 147 then 637 else 1000000) else (bif Nat.beq f 148 then 183 else 1000000)))))) else (bif Nat.blt f 163 then (bif Nat.blt f 156 then (bif Nat.blt f 152 then (bif Nat.blt f 150 then (bif Nat.beq f 149 then 646 else 1000000) else (bif Nat.blt f 151 then (bif Nat.beq f 150 then 647 else 1000000) else (bif Nat.beq f 151 then 648 else 1000000))) else (bif Nat.blt f 154 then (bif Nat.blt f 153 then (bif Nat.beq f 152 then 630 else 1000000) else (bif Nat.beq f 153 then 182 else 1000000)) else (bif Nat.blt f 155 then (bif Nat.beq f 154 then 641 else 1000000) else (bif Nat.beq f 155 then 642 else 1000000)))) else (bif Nat.blt f 159 then (bif Nat.blt f 157 then (bif Nat.beq f 156 then 643 else 1000000) else (bif Nat.blt f 158 then (bif Nat.beq f 157 then 644 else 1000000) else (bif Nat.beq f 158 then 645 else 1000000))) else (bif Nat.blt f 161 then (bif Nat.blt f 160 then (bif Nat.beq f 159 then 247 else 1000000) else (bif Nat.beq f 160 then 258 else 1000000)) else (bif Nat.blt f 162 then (bif Nat.beq f 161 then 628 else 1000000) else (bif Nat.beq f 162 then 339 else 1000000))))) else (bif Nat.blt f 170 then (bif Nat.blt f 166 then (bif Nat.blt f 164 then (bif Nat.beq f 163 then 233 else 1000000) else (bif Nat.blt f 165 then (bif Nat.beq f 164 then 340 else 1000000) else (bif Nat.beq f 165 then 629 else 1000000))) else (bif Nat.blt f 168 then (bif Nat.blt f 167 then (bif Nat.beq f 166 then 231 else 1000000) else (bif Nat.beq f 167 then 631 else 1000000)) else (bif Nat.blt f 169 then (bif Nat.beq f 168 then 234 else 1000000) else (bif Nat.beq f 169 then 475 else 1000000)))) else (bif Nat.blt f 174 then (bif Nat.blt f 172 then (bif Nat.blt f 171 then (bif Nat.beq f 170 then 232 else 1000000) else (bif Nat.beq f 171 then 649 else 1000000)) else (bif Nat.blt f 173 then (bif Nat.beq f 172 then 186 else 1000000) else (bif Nat.beq f 173 then 653 else 1000000))) else (bif Nat.blt f 176 then (bif Nat.blt f 175 then (bif Nat.beq f 174 then 654 else 1000000) else (bif Nat.beq f 175 then 655 else 1000000)) else (bif Nat.blt f 177 then (bif Nat.beq f 176 then 184 else 1000000) else (bif Nat.beq f 177 then 185 else 1000000))))))) else (bif Nat.blt f 207 then (bif Nat.blt f 192 then (bif Nat.blt f 185 then (bif Nat.blt f 181 then (bif Nat.blt f 179 then (bif Nat.beq f 178 then 651 else 1000000) else (bif Nat.blt f 180 then (bif Nat.beq f 179 then 652 else 1000000) else (bif Nat.beq f 180 then 259 else 1000000))) else (bif Nat.blt f 183 then (bif Nat.blt f 182 then (bif Nat.beq f 181 then 260 else 1000000) else (bif Nat.beq f 182 then 261 else 1000000)) else (bif Nat.blt f 184 then (bif Nat.beq f 183 then 267 else 1000000) else (bif Nat.beq f 184 then 345 else 1000000)))) else (bif Nat.blt f 188 then (bif Nat.blt f 186 then (bif Nat.beq f 185 then 249 else 1000000) else (bif Nat.blt f 187 then (bif Nat.beq f 186 then 252 else 1000000) else (bif Nat.beq f 187 then 250 else 1000000))) else (bif Nat.blt f 190 then (bif Nat.blt f 189 then (bif Nat.beq f 188 then 346 else 1000000) else (bif Nat.beq f 189 then 251 else 1000000)) else (bif Nat.blt f 191 then (bif Nat.beq f 190 then 253 else 1000000) else (bif Nat.beq f 191 then 657 else 1000000))))) else (bif Nat.blt f 199 then (bif Nat.blt f 195 then (bif Nat.blt f 193 then (bif Nat.beq f 192 then 658 else 1000000) else (bif Nat.blt f 194 then (bif Nat.beq f 193 then 659 else 1000000) else (bif Nat.beq f 194 then 660 else 1000000))) else (bif Nat.blt f 197 then (bif Nat.blt f 196 then (bif Nat.beq f 195 then 656 else 1000000) else (bif Nat.beq f 196 then 268 else 1000000)) else (bif Nat.blt f 198 then (bif Nat.beq f 197 then 269 else 1000000) else (bif Nat.beq f 198 then 286 else 1000000)))) else (bif Nat.blt f 203 then (bif Nat.blt f 201 then (bif Nat.blt f 200 then (bif Nat.beq f 199 then 287 else 1000000) else (bif Nat.beq f 200 then 288 else 1000000)) else (bif Nat.blt f 202 then (bif Nat.beq f 201 then 289 else 1000000) else (bif Nat.beq f 202 then 272 else 1000000))) else (bif Nat.blt f 205 then (bif Nat.blt f 204 then (bif Nat.beq f 203 then 262 else 1000000) else (bif Nat.beq f 204 then 264 else 1000000)) else (bif Nat.blt f 206 then (bif Nat.beq f 205 then 263 else 1000000) else (bif Nat.beq f 206 then 347 else 1000000)))))) else (bif Nat.blt f 225 then (bif Nat.blt f 216 then (bif Nat.blt f 212 then (bif Nat.blt f 210 then (bif Nat.beq f 207 then 661 else 1000000) else (bif Nat.blt f 211 then (bif Nat.beq f 210 then 305 else 1000000) else (bif Nat.beq f 211 then 285 else 1000000))) else (bif Nat.blt f 214 then (bif Nat.blt f 213 then (bif Nat.beq f 212 then 306 else 1000000) else (bif Nat.beq f 213 then 307 else 1000000)) else (bif Nat.blt f 215 then (bif Nat.beq f 214 then 308 else 1000000) else (bif Nat.beq f 215 then 275 else 1000000)))) else (bif Nat.blt f 220 then (bif Nat.blt f 218 then (bif Nat.blt f 217 then (bif Nat.beq f 216 then 270 else 1000000) else (bif Nat.beq f 217 then 271 else 1000000)) else (bif Nat.blt f 219 then (bif Nat.beq f 218 then 273 else 1000000) else (bif Nat.beq f 219 then 274 else 1000000))) else (bif Nat.blt f 222 then (bif Nat.blt f 221 then (bif Nat.beq f 220 then 315 else 1000000) else (bif Nat.beq f 221 then 316 else 1000000)) else (bif Nat.blt f 224 then (bif Nat.beq f 222 then 297 else 1000000) else (bif Nat.beq f 224 then 298 else 1000000))))) else (bif Nat.blt f 233 then (bif Nat.blt f 229 then (bif Nat.blt f 226 then (bif Nat.beq f 225 then 299 else 1000000) else (bif Nat.blt f 227 then (bif Nat.beq f 226 then 290 else 1000000) else (bif Nat.beq f 227 then 291 else 1000000))) else (bif Nat.blt f 231 then (bif Nat.blt f 230 then (bif Nat.beq f 229 then 292 else 1000000) else (bif Nat.beq f 230 then 293 else 1000000)) else (bif Nat.blt f 232 then (bif Nat.beq f 231 then 294 else 1000000) else (bif Nat.beq f 232 then 295 else 1000000)))) else (bif Nat.blt f 238 then (bif Nat.blt f 236 then (bif Nat.blt f 235 then (bif Nat.beq f 233 then 296 else 1000000) else (bif Nat.beq f 235 then 313 else 1000000)) else (bif Nat.blt f 237 then (bif Nat.beq f 236 then 309 else 1000000) else (bif Nat.beq f 237 then 310 else 1000000))) else (bif Nat.blt f 240 then (bif Nat.blt f 239 then (bif Nat.beq f 238 then 311 else 1000000) else (bif Nat.beq f 239 then 312 else 1000000)) else (bif Nat.blt f 241 then (bif Nat.beq f 240 then 317 else 1000000) else (bif Nat.beq f 241 then 318 else 1000000))))))))
def N (go : Nat → Option Obj) : Nums := ⟨num, fid, id, id, fun _ => none, go⟩
theorem c178 (go : Nat → Option Obj) : ((Tryz.prog.funcs[75]?).bind (au Tryz.prog (N go) false)) = some f178 := by kernel_rfl
theorem c179 (go : Nat → Option Obj) : ((Tryz.prog.funcs[114]?).bind (au Tryz.prog (N go) false)) = some f179 := by kernel_rfl
theorem c181 (go : Nat → Option Obj) : ((Tryz.prog.funcs[107]?).bind (au Tryz.prog (N go) false)) = some f181 := by kernel_rfl
theorem c182 (go : Nat → Option Obj) : ((Tryz.prog.funcs[153]?).bind (au Tryz.prog (N go) false)) = some f182 := by kernel_rfl
theorem c183 (go : Nat → Option Obj) : ((Tryz.prog.funcs[148]?).bind (au Tryz.prog (N go) false)) = some f183 := by kernel_rfl
theorem c184 (go : Nat → Option Obj) : ((Tryz.prog.funcs[176]?).bind (au Tryz.prog (N go) false)) = some f184 := by kernel_rfl
theorem c185 (go : Nat → Option Obj) : ((Tryz.prog.funcs[177]?).bind (au Tryz.prog (N go) false)) = some f185 := by kernel_rfl
theorem c186 (go : Nat → Option Obj) : ((Tryz.prog.funcs[172]?).bind (au Tryz.prog (N go) false)) = some f186 := by kernel_rfl
theorem c227 (go : Nat → Option Obj) : ((Tryz.prog.funcs[122]?).bind (au Tryz.prog (N go) false)) = some f227 := by kernel_rfl
theorem c229 (go : Nat → Option Obj) : ((Tryz.prog.funcs[87]?).bind (au Tryz.prog (N go) false)) = some f229 := by kernel_rfl
theorem c231 (go : Nat → Option Obj) : ((Tryz.prog.funcs[166]?).bind (au Tryz.prog (N go) false)) = some f231 := by kernel_rfl
theorem c233 (go : Nat → Option Obj) : ((Tryz.prog.funcs[163]?).bind (au Tryz.prog (N go) false)) = some f233 := by kernel_rfl
theorem c250 (go : Nat → Option Obj) : ((Tryz.prog.funcs[187]?).bind (au Tryz.prog (N go) false)) = some f250 := by kernel_rfl
theorem c325 (go : Nat → Option Obj) : ((Tryz.prog.funcs[28]?).bind (au Tryz.prog (N go) false)) = some f325 := by kernel_rfl
theorem c326 (go : Nat → Option Obj) : ((Tryz.prog.funcs[81]?).bind (au Tryz.prog (N go) false)) = some f326 := by kernel_rfl
theorem c332 (go : Nat → Option Obj) : ((Tryz.prog.funcs[45]?).bind (au Tryz.prog (N go) false)) = some f332 := by kernel_rfl
theorem c334 (go : Nat → Option Obj) : ((Tryz.prog.funcs[130]?).bind (au Tryz.prog (N go) false)) = some f334 := by kernel_rfl
theorem c337 (go : Nat → Option Obj) : ((Tryz.prog.funcs[88]?).bind (au Tryz.prog (N go) false)) = some f337 := by kernel_rfl
theorem c338 (go : Nat → Option Obj) : ((Tryz.prog.funcs[93]?).bind (au Tryz.prog (N go) false)) = some f338 := by kernel_rfl
theorem c339 (go : Nat → Option Obj) : ((Tryz.prog.funcs[162]?).bind (au Tryz.prog (N go) false)) = some f339 := by kernel_rfl
theorem c340 (go : Nat → Option Obj) : ((Tryz.prog.funcs[164]?).bind (au Tryz.prog (N go) false)) = some f340 := by kernel_rfl
theorem c344 (go : Nat → Option Obj) : ((Tryz.prog.funcs[127]?).bind (au Tryz.prog (N go) false)) = some f344 := by kernel_rfl
theorem c346 (go : Nat → Option Obj) : ((Tryz.prog.funcs[188]?).bind (au Tryz.prog (N go) false)) = some f346 := by kernel_rfl
theorem c347 (go : Nat → Option Obj) : ((Tryz.prog.funcs[206]?).bind (au Tryz.prog (N go) false)) = some f347 := by kernel_rfl
theorem c405 (go : Nat → Option Obj) : ((Tryz.prog.funcs[13]?).bind (au Tryz.prog (N go) false)) = some f405 := by kernel_rfl
theorem c418 (go : Nat → Option Obj) : ((Tryz.prog.funcs[15]?).bind (au Tryz.prog (N go) false)) = some f418 := by kernel_rfl
theorem c435 (go : Nat → Option Obj) : ((Tryz.prog.funcs[21]?).bind (au Tryz.prog (N go) false)) = some f435 := by kernel_rfl
theorem c444 (go : Nat → Option Obj) : ((Tryz.prog.funcs[12]?).bind (au Tryz.prog (N go) false)) = some f444 := by kernel_rfl
theorem c451 (go : Nat → Option Obj) : ((Tryz.prog.funcs[11]?).bind (au Tryz.prog (N go) false)) = some f451 := by kernel_rfl
theorem c452 (go : Nat → Option Obj) : ((Tryz.prog.funcs[46]?).bind (au Tryz.prog (N go) false)) = some f452 := by kernel_rfl
theorem c453 (go : Nat → Option Obj) : ((Tryz.prog.funcs[47]?).bind (au Tryz.prog (N go) false)) = some f453 := by kernel_rfl
theorem c454 (go : Nat → Option Obj) : ((Tryz.prog.funcs[48]?).bind (au Tryz.prog (N go) false)) = some f454 := by kernel_rfl
theorem c497 (go : Nat → Option Obj) : ((Tryz.prog.funcs[40]?).bind (au Tryz.prog (N go) false)) = some f497 := by kernel_rfl
theorem c498 (go : Nat → Option Obj) : ((Tryz.prog.funcs[41]?).bind (au Tryz.prog (N go) false)) = some f498 := by kernel_rfl
theorem c499 (go : Nat → Option Obj) : ((Tryz.prog.funcs[42]?).bind (au Tryz.prog (N go) false)) = some f499 := by kernel_rfl
theorem c500 (go : Nat → Option Obj) : ((Tryz.prog.funcs[43]?).bind (au Tryz.prog (N go) false)) = some f500 := by kernel_rfl
theorem c501 (go : Nat → Option Obj) : ((Tryz.prog.funcs[44]?).bind (au Tryz.prog (N go) false)) = some f501 := by kernel_rfl
theorem c506 (go : Nat → Option Obj) : ((Tryz.prog.funcs[19]?).bind (au Tryz.prog (N go) false)) = some f506 := by kernel_rfl
theorem c507 (go : Nat → Option Obj) : ((Tryz.prog.funcs[22]?).bind (au Tryz.prog (N go) false)) = some f507 := by kernel_rfl
theorem c508 (go : Nat → Option Obj) : ((Tryz.prog.funcs[23]?).bind (au Tryz.prog (N go) false)) = some f508 := by kernel_rfl
theorem c509 (go : Nat → Option Obj) : ((Tryz.prog.funcs[24]?).bind (au Tryz.prog (N go) false)) = some f509 := by kernel_rfl
theorem c510 (go : Nat → Option Obj) : ((Tryz.prog.funcs[25]?).bind (au Tryz.prog (N go) false)) = some f510 := by kernel_rfl
theorem c511 (go : Nat → Option Obj) : ((Tryz.prog.funcs[26]?).bind (au Tryz.prog (N go) false)) = some f511 := by kernel_rfl
theorem c512 (go : Nat → Option Obj) : ((Tryz.prog.funcs[27]?).bind (au Tryz.prog (N go) false)) = some f512 := by kernel_rfl
theorem c513 (go : Nat → Option Obj) : ((Tryz.prog.funcs[29]?).bind (au Tryz.prog (N go) false)) = some f513 := by kernel_rfl
theorem c514 (go : Nat → Option Obj) : ((Tryz.prog.funcs[30]?).bind (au Tryz.prog (N go) false)) = some f514 := by kernel_rfl
theorem c515 (go : Nat → Option Obj) : ((Tryz.prog.funcs[31]?).bind (au Tryz.prog (N go) false)) = some f515 := by kernel_rfl
theorem c517 (go : Nat → Option Obj) : ((Tryz.prog.funcs[33]?).bind (au Tryz.prog (N go) false)) = some f517 := by kernel_rfl
theorem c518 (go : Nat → Option Obj) : ((Tryz.prog.funcs[34]?).bind (au Tryz.prog (N go) false)) = some f518 := by kernel_rfl
theorem c519 (go : Nat → Option Obj) : ((Tryz.prog.funcs[35]?).bind (au Tryz.prog (N go) false)) = some f519 := by kernel_rfl
theorem c520 (go : Nat → Option Obj) : ((Tryz.prog.funcs[36]?).bind (au Tryz.prog (N go) false)) = some f520 := by kernel_rfl
theorem c521 (go : Nat → Option Obj) : ((Tryz.prog.funcs[37]?).bind (au Tryz.prog (N go) false)) = some f521 := by kernel_rfl
theorem c522 (go : Nat → Option Obj) : ((Tryz.prog.funcs[38]?).bind (au Tryz.prog (N go) false)) = some f522 := by kernel_rfl
theorem c523 (go : Nat → Option Obj) : ((Tryz.prog.funcs[39]?).bind (au Tryz.prog (N go) false)) = some f523 := by kernel_rfl
theorem c524 (go : Nat → Option Obj) : ((Tryz.prog.funcs[89]?).bind (au Tryz.prog (N go) false)) = some f524 := by kernel_rfl
theorem c525 (go : Nat → Option Obj) : ((Tryz.prog.funcs[90]?).bind (au Tryz.prog (N go) false)) = some f525 := by kernel_rfl
theorem c526 (go : Nat → Option Obj) : ((Tryz.prog.funcs[91]?).bind (au Tryz.prog (N go) false)) = some f526 := by kernel_rfl
theorem c541 (go : Nat → Option Obj) : ((Tryz.prog.funcs[98]?).bind (au Tryz.prog (N go) false)) = some f541 := by kernel_rfl
theorem c542 (go : Nat → Option Obj) : ((Tryz.prog.funcs[99]?).bind (au Tryz.prog (N go) false)) = some f542 := by kernel_rfl
theorem c543 (go : Nat → Option Obj) : ((Tryz.prog.funcs[100]?).bind (au Tryz.prog (N go) false)) = some f543 := by kernel_rfl
theorem c566 (go : Nat → Option Obj) : ((Tryz.prog.funcs[18]?).bind (au Tryz.prog (N go) false)) = some f566 := by kernel_rfl
theorem c571 (go : Nat → Option Obj) : ((Tryz.prog.funcs[82]?).bind (au Tryz.prog (N go) false)) = some f571 := by kernel_rfl
theorem c572 (go : Nat → Option Obj) : ((Tryz.prog.funcs[83]?).bind (au Tryz.prog (N go) false)) = some f572 := by kernel_rfl
theorem c573 (go : Nat → Option Obj) : ((Tryz.prog.funcs[84]?).bind (au Tryz.prog (N go) false)) = some f573 := by kernel_rfl
theorem c574 (go : Nat → Option Obj) : ((Tryz.prog.funcs[85]?).bind (au Tryz.prog (N go) false)) = some f574 := by kernel_rfl
theorem c575 (go : Nat → Option Obj) : ((Tryz.prog.funcs[86]?).bind (au Tryz.prog (N go) false)) = some f575 := by kernel_rfl
theorem c577 (go : Nat → Option Obj) : ((Tryz.prog.funcs[74]?).bind (au Tryz.prog (N go) false)) = some f577 := by kernel_rfl
theorem c579 (go : Nat → Option Obj) : ((Tryz.prog.funcs[77]?).bind (au Tryz.prog (N go) false)) = some f579 := by kernel_rfl
theorem c580 (go : Nat → Option Obj) : ((Tryz.prog.funcs[78]?).bind (au Tryz.prog (N go) false)) = some f580 := by kernel_rfl
theorem c581 (go : Nat → Option Obj) : ((Tryz.prog.funcs[79]?).bind (au Tryz.prog (N go) false)) = some f581 := by kernel_rfl
theorem c582 (go : Nat → Option Obj) : ((Tryz.prog.funcs[80]?).bind (au Tryz.prog (N go) false)) = some f582 := by kernel_rfl
theorem c585 (go : Nat → Option Obj) : ((Tryz.prog.funcs[129]?).bind (au Tryz.prog (N go) false)) = some f585 := by kernel_rfl
theorem c586 (go : Nat → Option Obj) : ((Tryz.prog.funcs[131]?).bind (au Tryz.prog (N go) false)) = some f586 := by kernel_rfl
theorem c587 (go : Nat → Option Obj) : ((Tryz.prog.funcs[132]?).bind (au Tryz.prog (N go) false)) = some f587 := by kernel_rfl
theorem c588 (go : Nat → Option Obj) : ((Tryz.prog.funcs[133]?).bind (au Tryz.prog (N go) false)) = some f588 := by kernel_rfl
theorem c589 (go : Nat → Option Obj) : ((Tryz.prog.funcs[134]?).bind (au Tryz.prog (N go) false)) = some f589 := by kernel_rfl
theorem c590 (go : Nat → Option Obj) : ((Tryz.prog.funcs[135]?).bind (au Tryz.prog (N go) false)) = some f590 := by kernel_rfl
theorem c591 (go : Nat → Option Obj) : ((Tryz.prog.funcs[136]?).bind (au Tryz.prog (N go) false)) = some f591 := by kernel_rfl
theorem c592 (go : Nat → Option Obj) : ((Tryz.prog.funcs[137]?).bind (au Tryz.prog (N go) false)) = some f592 := by kernel_rfl
theorem c593 (go : Nat → Option Obj) : ((Tryz.prog.funcs[138]?).bind (au Tryz.prog (N go) false)) = some f593 := by kernel_rfl
theorem c594 (go : Nat → Option Obj) : ((Tryz.prog.funcs[112]?).bind (au Tryz.prog (N go) false)) = some f594 := by kernel_rfl
theorem c595 (go : Nat → Option Obj) : ((Tryz.prog.funcs[139]?).bind (au Tryz.prog (N go) false)) = some f595 := by kernel_rfl
theorem c596 (go : Nat → Option Obj) : ((Tryz.prog.funcs[113]?).bind (au Tryz.prog (N go) false)) = some f596 := by kernel_rfl
theorem c597 (go : Nat → Option Obj) : ((Tryz.prog.funcs[140]?).bind (au Tryz.prog (N go) false)) = some f597 := by kernel_rfl
theorem c616 (go : Nat → Option Obj) : ((Tryz.prog.funcs[115]?).bind (au Tryz.prog (N go) false)) = some f616 := by kernel_rfl
theorem c617 (go : Nat → Option Obj) : ((Tryz.prog.funcs[116]?).bind (au Tryz.prog (N go) false)) = some f617 := by kernel_rfl
theorem c618 (go : Nat → Option Obj) : ((Tryz.prog.funcs[117]?).bind (au Tryz.prog (N go) false)) = some f618 := by kernel_rfl
theorem c619 (go : Nat → Option Obj) : ((Tryz.prog.funcs[118]?).bind (au Tryz.prog (N go) false)) = some f619 := by kernel_rfl
theorem c620 (go : Nat → Option Obj) : ((Tryz.prog.funcs[119]?).bind (au Tryz.prog (N go) false)) = some f620 := by kernel_rfl
theorem c621 (go : Nat → Option Obj) : ((Tryz.prog.funcs[120]?).bind (au Tryz.prog (N go) false)) = some f621 := by kernel_rfl
theorem c622 (go : Nat → Option Obj) : ((Tryz.prog.funcs[121]?).bind (au Tryz.prog (N go) false)) = some f622 := by kernel_rfl
theorem c623 (go : Nat → Option Obj) : ((Tryz.prog.funcs[106]?).bind (au Tryz.prog (N go) false)) = some f623 := by kernel_rfl
theorem c624 (go : Nat → Option Obj) : ((Tryz.prog.funcs[108]?).bind (au Tryz.prog (N go) false)) = some f624 := by kernel_rfl
theorem c625 (go : Nat → Option Obj) : ((Tryz.prog.funcs[109]?).bind (au Tryz.prog (N go) false)) = some f625 := by kernel_rfl
theorem c626 (go : Nat → Option Obj) : ((Tryz.prog.funcs[110]?).bind (au Tryz.prog (N go) false)) = some f626 := by kernel_rfl
theorem c627 (go : Nat → Option Obj) : ((Tryz.prog.funcs[111]?).bind (au Tryz.prog (N go) false)) = some f627 := by kernel_rfl
theorem c629 (go : Nat → Option Obj) : ((Tryz.prog.funcs[165]?).bind (au Tryz.prog (N go) false)) = some f629 := by kernel_rfl
theorem c630 (go : Nat → Option Obj) : ((Tryz.prog.funcs[152]?).bind (au Tryz.prog (N go) false)) = some f630 := by kernel_rfl
theorem c641 (go : Nat → Option Obj) : ((Tryz.prog.funcs[154]?).bind (au Tryz.prog (N go) false)) = some f641 := by kernel_rfl
theorem c642 (go : Nat → Option Obj) : ((Tryz.prog.funcs[155]?).bind (au Tryz.prog (N go) false)) = some f642 := by kernel_rfl
theorem c643 (go : Nat → Option Obj) : ((Tryz.prog.funcs[156]?).bind (au Tryz.prog (N go) false)) = some f643 := by kernel_rfl
theorem c644 (go : Nat → Option Obj) : ((Tryz.prog.funcs[157]?).bind (au Tryz.prog (N go) false)) = some f644 := by kernel_rfl
theorem c645 (go : Nat → Option Obj) : ((Tryz.prog.funcs[158]?).bind (au Tryz.prog (N go) false)) = some f645 := by kernel_rfl
theorem c646 (go : Nat → Option Obj) : ((Tryz.prog.funcs[149]?).bind (au Tryz.prog (N go) false)) = some f646 := by kernel_rfl
theorem c647 (go : Nat → Option Obj) : ((Tryz.prog.funcs[150]?).bind (au Tryz.prog (N go) false)) = some f647 := by kernel_rfl
theorem c648 (go : Nat → Option Obj) : ((Tryz.prog.funcs[151]?).bind (au Tryz.prog (N go) false)) = some f648 := by kernel_rfl
theorem c651 (go : Nat → Option Obj) : ((Tryz.prog.funcs[178]?).bind (au Tryz.prog (N go) false)) = some f651 := by kernel_rfl
theorem c652 (go : Nat → Option Obj) : ((Tryz.prog.funcs[179]?).bind (au Tryz.prog (N go) false)) = some f652 := by kernel_rfl
theorem c653 (go : Nat → Option Obj) : ((Tryz.prog.funcs[173]?).bind (au Tryz.prog (N go) false)) = some f653 := by kernel_rfl
theorem c654 (go : Nat → Option Obj) : ((Tryz.prog.funcs[174]?).bind (au Tryz.prog (N go) false)) = some f654 := by kernel_rfl
theorem c655 (go : Nat → Option Obj) : ((Tryz.prog.funcs[175]?).bind (au Tryz.prog (N go) false)) = some f655 := by kernel_rfl
theorem c656 (go : Nat → Option Obj) : ((Tryz.prog.funcs[195]?).bind (au Tryz.prog (N go) false)) = some f656 := by kernel_rfl
theorem c657 (go : Nat → Option Obj) : ((Tryz.prog.funcs[191]?).bind (au Tryz.prog (N go) false)) = some f657 := by kernel_rfl
theorem c658 (go : Nat → Option Obj) : ((Tryz.prog.funcs[192]?).bind (au Tryz.prog (N go) false)) = some f658 := by kernel_rfl
theorem c659 (go : Nat → Option Obj) : ((Tryz.prog.funcs[193]?).bind (au Tryz.prog (N go) false)) = some f659 := by kernel_rfl
theorem c660 (go : Nat → Option Obj) : ((Tryz.prog.funcs[194]?).bind (au Tryz.prog (N go) false)) = some f660 := by kernel_rfl
theorem c661 (go : Nat → Option Obj) : ((Tryz.prog.funcs[207]?).bind (au Tryz.prog (N go) false)) = some f661 := by kernel_rfl
theorem c662 (go : Nat → Option Obj) : ((Tryz.prog.funcs[3]?).bind (au Tryz.prog (N go) false)) = some f662 := by kernel_rfl
theorem c668 (go : Nat → Option Obj) : ((Tryz.prog.funcs[9]?).bind (au Tryz.prog (N go) false)) = some f668 := by kernel_rfl
theorem c669 (go : Nat → Option Obj) : ((Tryz.prog.funcs[10]?).bind (au Tryz.prog (N go) false)) = some f669 := by kernel_rfl
theorem c670 (go : Nat → Option Obj) : ((Tryz.prog.funcs[20]?).bind (au Tryz.prog (N go) false)) = some f670 := by kernel_rfl
theorem c671 (go : Nat → Option Obj) : ((Tryz.prog.funcs[59]?).bind (au Tryz.prog (N go) false)) = some f671 := by kernel_rfl
theorem c672 (go : Nat → Option Obj) : ((Tryz.prog.funcs[60]?).bind (au Tryz.prog (N go) false)) = some f672 := by kernel_rfl
theorem c673 (go : Nat → Option Obj) : ((Tryz.prog.funcs[61]?).bind (au Tryz.prog (N go) false)) = some f673 := by kernel_rfl
theorem c674 (go : Nat → Option Obj) : ((Tryz.prog.funcs[62]?).bind (au Tryz.prog (N go) false)) = some f674 := by kernel_rfl
theorem c677 (go : Nat → Option Obj) : ((Tryz.prog.funcs[65]?).bind (au Tryz.prog (N go) false)) = some f677 := by kernel_rfl
theorem c678 (go : Nat → Option Obj) : ((Tryz.prog.funcs[66]?).bind (au Tryz.prog (N go) false)) = some f678 := by kernel_rfl
theorem c679 (go : Nat → Option Obj) : ((Tryz.prog.funcs[67]?).bind (au Tryz.prog (N go) false)) = some f679 := by kernel_rfl
theorem c680 (go : Nat → Option Obj) : ((Tryz.prog.funcs[68]?).bind (au Tryz.prog (N go) false)) = some f680 := by kernel_rfl
theorem c681 (go : Nat → Option Obj) : ((Tryz.prog.funcs[69]?).bind (au Tryz.prog (N go) false)) = some f681 := by kernel_rfl
theorem c682 (go : Nat → Option Obj) : ((Tryz.prog.funcs[70]?).bind (au Tryz.prog (N go) false)) = some f682 := by kernel_rfl
theorem c683 (go : Nat → Option Obj) : ((Tryz.prog.funcs[71]?).bind (au Tryz.prog (N go) false)) = some f683 := by kernel_rfl
theorem c684 (go : Nat → Option Obj) : ((Tryz.prog.funcs[72]?).bind (au Tryz.prog (N go) false)) = some f684 := by kernel_rfl
theorem c685 (go : Nat → Option Obj) : ((Tryz.prog.funcs[73]?).bind (au Tryz.prog (N go) false)) = some f685 := by kernel_rfl
/-- What the contracts ask of the world. -/
structure Facts (go : Nat → Option Obj) : Prop where
 pow : TabAt Tryz.prog (N go) "internal/strconv.uint64pow10" .u64 Lib.pow10Tab
 max : IntAt (N go) 1
 esyn : ErrAt (N go) 4
 eran : ErrAt (N go) 5
theorem p246 (go : Nat → Option Obj) (X : Facts go) : ∀ args bs t, uI args bs = some t → de Tryz.prog (N go) 246 args bs t := FT Tryz.laysM171 rfl X.pow
theorem p247 (go : Nat → Option Obj) (X : Facts go) : ∀ args bs t, uH args bs = some t → de Tryz.prog (N go) 247 args bs t := FQ Tryz.lays156 Tryz.Builder_Extra_156 rfl
theorem p249 (go : Nat → Option Obj) (X : Facts go) : ∀ args bs t, p9 args bs = some t → de Tryz.prog (N go) 249 args bs t := DJ Tryz.lays146 (by kernel_rfl) rfl X.max
theorem p252 (go : Nat → Option Obj) (X : Facts go) : ∀ args bs t, D5 args bs = some t → de Tryz.prog (N go) 252 args bs t := Kc Tryz.lays145 rfl X.max
theorem p263 (go : Nat → Option Obj) (X : Facts go) : ∀ args bs t, (uJ 273) args bs = some t → de Tryz.prog (N go) 263 args bs t := IC Tryz.laysC172 rfl rfl X.esyn X.eran
theorem p345 (go : Nat → Option Obj) (X : Facts go) : ∀ args bs t, jU args bs = some t → de Tryz.prog (N go) 345 args bs t := uy Tryz.lays144 rfl X.max
theorem mixed : Tryz.prog.follows .mixedOrders = true := by kernel_rfl
theorem gok0 (go : Nat → Option Obj) (X : Facts go) : GOk Tryz.prog (N go) G0 := v8 fun f => aq (fun _ => aq (fun _ => aq (fun _ => aq (fun _ => aq (fun _ => aq (fun _ => aq (fun _ => ap rfl (c178 go)) fun _ => ap rfl (c179 go)) fun _ => aq (fun _ => ap rfl (c181 go)) fun _ => ap rfl (c182 go)) fun _ => aq (fun _ => aq (fun _ => ap rfl (c183 go)) fun _ => ap rfl (c184 go)) fun _ => aq (fun _ => ap rfl (c185 go)) fun _ => ap rfl (c186 go)) fun _ => aq (fun _ => aq (fun _ => aq (fun _ => ap rfl (c227 go)) fun _ => ap rfl (c229 go)) fun _ => aq (fun _ => ap rfl (c231 go)) fun _ => ap rfl (c233 go)) fun _ => aq (fun _ => aq (fun _ => gQ rfl ⟨_, Tryz.func123, by kernel_rfl, by decide⟩ (p246 go X)) fun _ => gQ rfl ⟨_, Tryz.func159, by kernel_rfl, by decide⟩ (p247 go X)) fun _ => aq (fun _ => gQ rfl ⟨_, Tryz.func185, by kernel_rfl, by decide⟩ (p249 go X)) fun _ => aq (fun _ => ap rfl (c250 go)) fun _ => gQ rfl ⟨_, Tryz.func186, by kernel_rfl, by decide⟩ (p252 go X)) fun _ => aq (fun _ => aq (fun _ => aq (fun _ => aq (fun _ => gQ rfl ⟨_, Tryz.func205, by kernel_rfl, by decide⟩ (p263 go X)) fun _ => ap rfl (c325 go)) fun _ => aq (fun _ => ap rfl (c326 go)) fun _ => ap rfl (c332 go)) fun _ => aq (fun _ => aq (fun _ => ap rfl (c334 go)) fun _ => ap rfl (c337 go)) fun _ => aq (fun _ => ap rfl (c338 go)) fun _ => aq (fun _ => ap rfl (c339 go)) fun _ => ap rfl (c340 go)) fun _ => aq (fun _ => aq (fun _ => aq (fun _ => ap rfl (c344 go)) fun _ => gQ rfl ⟨_, Tryz.func184, by kernel_rfl, by decide⟩ (p345 go X)) fun _ => aq (fun _ => ap rfl (c346 go)) fun _ => ap rfl (c347 go)) fun _ => aq (fun _ => aq (fun _ => ap rfl (c405 go)) fun _ => ap rfl (c418 go)) fun _ => aq (fun _ => ap rfl (c435 go)) fun _ => aq (fun _ => ap rfl (c444 go)) fun _ => ap rfl (c451 go)) fun _ => aq (fun _ => aq (fun _ => aq (fun _ => aq (fun _ => aq (fun _ => ap rfl (c452 go)) fun _ => ap rfl (c453 go)) fun _ => aq (fun _ => ap rfl (c454 go)) fun _ => ap rfl (c497 go)) fun _ => aq (fun _ => aq (fun _ => ap rfl (c498 go)) fun _ => ap rfl (c499 go)) fun _ => aq (fun _ => ap rfl (c500 go)) fun _ => ap rfl (c501 go)) fun _ => aq (fun _ => aq (fun _ => aq (fun _ => ap rfl (c506 go)) fun _ => ap rfl (c507 go)) fun _ => aq (fun _ => ap rfl (c508 go)) fun _ => ap rfl (c509 go)) fun _ => aq (fun _ => aq (fun _ => ap rfl (c510 go)) fun _ => ap rfl (c511 go)) fun _ => aq (fun _ => ap rfl (c512 go)) fun _ => aq (fun _ => ap rfl (c513 go)) fun _ => ap rfl (c514 go)) fun _ => aq (fun _ => aq (fun _ => aq (fun _ => aq (fun _ => ap rfl (c515 go)) fun _ => ap rfl (c517 go)) fun _ => aq (fun _ => ap rfl (c518 go)) fun _ => ap rfl (c519 go)) fun _ => aq (fun _ => aq (fun _ => ap rfl (c520 go)) fun _ => ap rfl (c521 go)) fun _ => aq (fun _ => ap rfl (c522 go)) fun _ => aq (fun _ => ap rfl (c523 go)) fun _ => ap rfl (c524 go)) fun _ => aq (fun _ => aq (fun _ => aq (fun _ => ap rfl (c525 go)) fun _ => ap rfl (c526 go)) fun _ => aq (fun _ => ap rfl (c541 go)) fun _ => ap rfl (c542 go)) fun _ => aq (fun _ => aq (fun _ => ap rfl (c543 go)) fun _ => ap rfl (c566 go)) fun _ => aq (fun _ => ap rfl (c571 go)) fun _ => aq (fun _ => ap rfl (c572 go)) fun _ => ap rfl (c573 go)) fun _ => aq (fun _ => aq (fun _ => aq (fun _ => aq (fun _ => aq (fun _ => aq (fun _ => ap rfl (c574 go)) fun _ => ap rfl (c575 go)) fun _ => aq (fun _ => ap rfl (c577 go)) fun _ => ap rfl (c579 go)) fun _ => aq (fun _ => aq (fun _ => ap rfl (c580 go)) fun _ => ap rfl (c581 go)) fun _ => aq (fun _ => ap rfl (c582 go)) fun _ => ap rfl (c585 go)) fun _ => aq (fun _ => aq (fun _ => aq (fun _ => ap rfl (c586 go)) fun _ => ap rfl (c587 go)) fun _ => aq (fun _ => ap rfl (c588 go)) fun _ => ap rfl (c589 go)) fun _ => aq (fun _ => aq (fun _ => ap rfl (c590 go)) fun _ => ap rfl (c591 go)) fun _ => aq (fun _ => ap rfl (c592 go)) fun _ => aq (fun _ => ap rfl (c593 go)) fun _ => ap rfl (c594 go)) fun _ => aq (fun _ => aq (fun _ => aq (fun _ => aq (fun _ => ap rfl (c595 go)) fun _ => ap rfl (c596 go)) fun _ => aq (fun _ => ap rfl (c597 go)) fun _ => ap rfl (c616 go)) fun _ => aq (fun _ => aq (fun _ => ap rfl (c617 go)) fun _ => ap rfl (c618 go)) fun _ => aq (fun _ => ap rfl (c619 go)) fun _ => aq (fun _ => ap rfl (c620 go)) fun _ => ap rfl (c621 go)) fun _ => aq (fun _ => aq (fun _ => aq (fun _ => ap rfl (c622 go)) fun _ => ap rfl (c623 go)) fun _ => aq (fun _ => ap rfl (c624 go)) fun _ => ap rfl (c625 go)) fun _ => aq (fun _ => aq (fun _ => ap rfl (c626 go)) fun _ => ap rfl (c627 go)) fun _ => aq (fun _ => ap rfl (c629 go)) fun _ => aq (fun _ => ap rfl (c630 go)) fun _ => ap rfl (c641 go)) fun _ => aq (fun _ => aq (fun _ => aq (fun _ => aq (fun _ => aq (fun _ => ap rfl (c642 go)) fun _ => ap rfl (c643 go)) fun _ => aq (fun _ => ap rfl (c644 go)) fun _ => ap rfl (c645 go)) fun _ => aq (fun _ => aq (fun _ => ap rfl (c646 go)) fun _ => ap rfl (c647 go)) fun _ => aq (fun _ => ap rfl (c648 go)) fun _ => ap rfl (c651 go)) fun _ => aq (fun _ => aq (fun _ => aq (fun _ => ap rfl (c652 go)) fun _ => ap rfl (c653 go)) fun _ => aq (fun _ => ap rfl (c654 go)) fun _ => ap rfl (c655 go)) fun _ => aq (fun _ => aq (fun _ => ap rfl (c656 go)) fun _ => ap rfl (c657 go)) fun _ => aq (fun _ => ap rfl (c658 go)) fun _ => aq (fun _ => ap rfl (c659 go)) fun _ => ap rfl (c660 go)) fun _ => aq (fun _ => aq (fun _ => aq (fun _ => aq (fun _ => ap rfl (c661 go)) fun _ => ap rfl (c662 go)) fun _ => aq (fun _ => ap rfl (c668 go)) fun _ => ap rfl (c669 go)) fun _ => aq (fun _ => aq (fun _ => ap rfl (c670 go)) fun _ => ap rfl (c671 go)) fun _ => aq (fun _ => ap rfl (c672 go)) fun _ => aq (fun _ => ap rfl (c673 go)) fun _ => ap rfl (c674 go)) fun _ => aq (fun _ => aq (fun _ => aq (fun _ => ap rfl (c677 go)) fun _ => ap rfl (c678 go)) fun _ => aq (fun _ => ap rfl (c679 go)) fun _ => ap rfl (c680 go)) fun _ => aq (fun _ => aq (fun _ => ap rfl (c681 go)) fun _ => ap rfl (c682 go)) fun _ => aq (fun _ => ap rfl (c683 go)) fun _ => aq (fun _ => ap rfl (c684 go)) fun _ => ap rfl (c685 go)
theorem idleX (v0 v1 : Value) (w : World) :
  CallsD Tryz.prog 76 #[v0, v1] .returning w fun e u' w' => e = .returned (.tuple #[]) ∧ u' = .returning ∧ ∃ os, w' = more w os := by
 refine callsD_of_wpS Tryz.func76 rfl fun c₀ cs hu => ?_
 apply wpS_seq
 apply wpS_region
 simp [wpOpsS, go_sem, recoverD, hu, Tryz.ntmps76, Exit.thenS]
 refine wpS_cond (t := false) (by simp [Act.eval, Array.replicate]) ?_
 simp only [Bool.false_eq_true, if_false]
 refine wpS_of_wp (wp_skip ?_)
 cases c₀
 simp_all [bodyPostS, results, Tryz.results76]
 exact ⟨#[], (ta w).symm⟩
def wsX : List (List Value) := [[.int .i64 0, .int .i64 0, .int .i64 0, .slice none 0 0], [.int .i64 2]]
theorem bldX (w : World) : (Instr.build 67 #[]).run Tryz.prog w = .ok (.agg #[.int .i64 0, .int .i64 0, .int .i64 0, .slice none 0 0]) w := by kernel_rfl
theorem panX (p q : Addr) (T : Nat) (x : Value) (w : World) (hw : xU w [p, q] wsX) :
  CallsD Tryz.prog 76 #[.pointer (some p), .pointer (some q)] (.panicking [{ v := .iface T x, recovered := false }]) w fun e u' w' =>
   e = .returned (.tuple #[]) ∧ u' = .panicking [{ v := .iface T x, recovered := true }] ∧ ∃ os, w' = more (oe w [p, q] wsX) os := by
 obtain ⟨b, o, sp⟩ := p
 obtain ⟨b2, o2, sp2⟩ := q
 obtain ⟨h1, h2, h3, h4, _⟩ := hw
 dsimp only at h1 h2 h3 h4
 subst h1 h3
 have a0 := h2 0 (by simp)
 have a1 := h2 1 (by simp)
 have a2 := h2 2 (by simp)
 have a3 := h2 3 (by simp)
 rw [Nat.add_zero] at a0
 have f1 := fun w => World.isSome_setCells b [Value.int .i64 0] o w ⟨b, o + 1, none⟩
 have f2 := fun w => World.isSome_setCells b [Value.int .i64 0, Value.int .i64 0] o w ⟨b, o + 2, none⟩
 have f3 := fun w => World.isSome_setCells b [Value.int .i64 0, Value.int .i64 0, Value.int .i64 0] o w ⟨b, o + 3, none⟩
 have b1 := f1 w a1.1
 have b2' := f2 w a2.1
 have b3 := f3 w a3.1
 have c1 := World.frozen?_setCells b [Value.int .i64 0] o w ⟨b, o + 1, none⟩
 have c2 := World.frozen?_setCells b [Value.int .i64 0, Value.int .i64 0] o w ⟨b, o + 2, none⟩
 have c3 := World.frozen?_setCells b [Value.int .i64 0, Value.int .i64 0, Value.int .i64 0] o w ⟨b, o + 3, none⟩
 rw [a1.2] at c1
 rw [a2.2] at c2
 rw [a3.2] at c3
 obtain ⟨u0, g0⟩ := Option.isSome_iff_exists.1 a0.1
 obtain ⟨u1, g1⟩ := Option.isSome_iff_exists.1 b1
 obtain ⟨u2, g2⟩ := Option.isSome_iff_exists.1 b2'
 obtain ⟨u3, g3⟩ := Option.isSome_iff_exists.1 b3
 simp only [World.setCells, Nat.add_assoc, Nat.reduceAdd] at g1 g2 g3 c1 c2 c3
 obtain ⟨h5, h6⟩ := h4 0 (by simp)
 rw [Nat.add_zero] at h5 h6
 obtain ⟨u, hu0⟩ := Option.isSome_iff_exists.1 h5
 refine callsD_of_wpS Tryz.func76 rfl fun c₀ cs hu => ?_
 apply wpS_seq
 apply wpS_region
 simp [wpOpsS, go_sem, recoverD, hu, Tryz.ntmps76, Exit.thenS]
 refine wpS_cond (t := true) (by simp [Act.eval, Array.replicate]) ?_
 simp only [if_true]
 apply wpS_region
 simp only [World.setCells, Nat.add_assoc, Nat.reduceAdd] at hu0 h6
 simp [wpOpsS, go_sem, bodyPostS, results, Tryz.results76, bldX, g0, g1, g2, g3, c1, c2, c3, a0.2, hu0, h6]
 exact ⟨#[], (ta _).symm⟩
theorem dsemX (C : Ctx) (cs : Array Value) (fn : Func) (hcs : cs.size = 2) (h1 : C.dfr = [{ target := .fn (.func 76) cs, args := #[] }]) (h2 : C.dval = .func (.func 76) #[] cs) : DSem Tryz.prog C fn Ja := by
 obtain ⟨v0, v1, rfl⟩ : ∃ v0 v1, cs = #[v0, v1] := by
  rcases cs with ⟨l⟩
  match l, hcs with
  | [a, b], _ => exact ⟨a, b, rfl⟩
 refine Df h1 h2 (fun w => by simp [invoke, go_sem]) (idleX v0 v1) ?_
 intro E v a css e2 hv hs
 unfold Ja at hs
 split at hs
 case h_2 => cases hs
 rename_i t y
 obtain rfl := Option.some.inj hs
 rw [gG]
 cases hv with
 | ifc _ u _ hu =>
 refine ⟨wsX, ⟨rfl, fun j hj => ?_, rfl, fun j hj => ?_, trivial⟩, fun w ps hps hw => ?_⟩
 ·match j, hj with
  | 0, _ => exact ⟨rfl, .int _ _⟩
  | 1, _ => exact ⟨rfl, .int _ _⟩
  | 2, _ => exact ⟨rfl, .int _ _⟩
  | 3, _ => exact ⟨rfl, LeP.nil (P := Any) 4 E _ trivial (.con _)⟩
 ·match j, hj with
  | 0, _ => exact ⟨rfl, .int _ _⟩
 ·obtain ⟨p, q, rfl⟩ : ∃ p q, ps = [p, q] := by
   match ps, hps with
   | [p, q], _ => exact ⟨p, q, rfl⟩
  have hv0 : v0 = .pointer (some p) ∧ v1 = .pointer (some q) := by simpa using hps
  obtain ⟨rfl, rfl⟩ := hv0
  exact panX p q _ _ w hw
theorem g516R (go : Nat → Option Obj) : gx Tryz.prog (N go) Tryz.f32 = some JL := by kernel_rfl
theorem p516 (go : Nat → Option Obj) (X : Facts go) : ∀ args bs t, vv args bs = some t → de Tryz.prog (N go) 516 args bs t := by
 intro args bs t h
 unfold vv at h
 split at h
 ·rename_i s
  split at h
  ·rename_i hs
   obtain rfl := Option.some.inj h
   obtain ⟨A, caps, q1, q2, q3, q4⟩ := yp s hs
   exact qq (f := 516) (kf := 578) (gok0 go X) mixed Tryz.func32 (g516R go) rfl (fun C cs k0 _ _ k3 k4 => dsemX C cs _ (by rw [k0, q3]) k3 k4) rfl q1 q2 q4
  ·cases h
 ·cases h
theorem gok1 (go : Nat → Option Obj) (X : Facts go) : GOk Tryz.prog (N go) G1 := v8 fun f => aq (fun e => by
 obtain rfl := Nat.eq_of_beq_eq_true e
 exact ⟨⟨_, Tryz.func32, by kernel_rfl, by decide⟩, p516 go X⟩) fun _ => gok0 go X f
theorem ta0 (w : World) : (Instr.typeAssert .nilIface 20 138 true).run Tryz.prog w = .ok (.tuple #[.agg #[.int .i64 0], .bool false]) w := by
 simp [Instr.typeAssert, go_sem]
theorem ta1 (v : Value) (w : World) : (Instr.typeAssert (.iface 138 v) 20 138 true).run Tryz.prog w = .ok (.tuple #[v, .bool true]) w := by
 simp [Instr.typeAssert, go_sem]
theorem idleR (v0 : Value) (w : World) :
  CallsD Tryz.prog 97 #[v0] .returning w fun e u' w' => e = .returned (.tuple #[]) ∧ u' = .returning ∧ ∃ os, w' = more w os := by
 refine callsD_of_wpS Tryz.func97 rfl fun c₀ cs hu => ?_
 apply wpS_seq
 apply wpS_region
 simp [wpOpsS, go_sem, recoverD, hu, Tryz.ntmps97, Exit.thenS, ta0]
 apply wpS_seq
 apply wpS_region
 simp [wpOpsS, go_sem, Exit.thenS]
 refine wpS_cond (t := false) (by simp [Act.eval, Array.replicate]) ?_
 simp only [Bool.false_eq_true, if_false]
 refine wpS_of_wp (wp_skip ?_)
 cases c₀
 simp_all [bodyPostS, results, Tryz.results97, iW]
 exact ⟨_, rfl⟩
theorem panR (p : Addr) (x : Int) (w : World) (hc : (w.cell? p).isSome = true) (hz : w.frozen? p = false) :
  CallsD Tryz.prog 97 #[.pointer (some p)] (.panicking [{ v := .iface 138 (.agg #[.int .i64 x]), recovered := false }]) w fun e u' w' =>
   e = .returned (.tuple #[]) ∧ u' = .panicking [{ v := .iface 138 (.agg #[.int .i64 x]), recovered := true }] ∧ ∃ os, w' = more (w.setCell p (.int .i64 x)) os := by
 obtain ⟨u, hu0⟩ := Option.isSome_iff_exists.1 hc
 have h1 : ∀ o, (w.alloc o).cell? p = some u := fun o => by rw [iW, Iu hc, hu0]
 have h2 : ∀ o, (w.alloc o).frozen? p = false := fun o => by rw [iW, yD hc, hz]
 have h3 : ∀ o v, (w.alloc o).setCell p v = more (w.setCell p v) #[o] := fun o v => by rw [iW, Jb (rJ hc)]
 refine callsD_of_wpS Tryz.func97 rfl fun c₀ cs hu => ?_
 apply wpS_seq
 apply wpS_region
 simp [wpOpsS, go_sem, recoverD, hu, Tryz.ntmps97, Exit.thenS, ta1]
 apply wpS_seq
 apply wpS_region
 simp [wpOpsS, go_sem, Exit.thenS]
 refine wpS_cond (t := true) (by simp [Act.eval, Array.replicate]) ?_
 simp only [if_true]
 apply wpS_region
 simp [wpOpsS, go_sem, h1, h2, bodyPostS, results, Tryz.results97, h3]
 exact ⟨_, rfl⟩
theorem dsemR (C : Ctx) (cs : Array Value) (fn : Func) (hcs : cs.size = 1) (ht : C.tnum = id) (h1 : C.dfr = [{ target := .fn (.func 97) cs, args := #[] }]) (h2 : C.dval = .func (.func 97) #[] cs) : DSem Tryz.prog C fn u6 := by
 obtain ⟨v0, rfl⟩ : ∃ v, cs = #[v] := by
  rcases cs with ⟨l⟩
  match l, hcs with
  | [v], _ => exact ⟨v, rfl⟩
 refine Df h1 h2 (fun w => by simp [invoke, go_sem]) (idleR v0) ?_
 intro E v a css e2 hv hs
 unfold u6 at hs
 split at hs
 case h_2 => cases hs
 rename_i t e
 split at hs
 case isFalse => cases hs
 rename_i htt
 subst htt
 obtain rfl := Option.some.inj hs
 rw [ht] at e2
 cases hv with
 | ifc _ u _ hu =>
 obtain ⟨us, rfl, u1, u2, u3⟩ := hu.agg_inv
 have u4 := (u3 0 (by simp)).int_inv
 obtain rfl : us = #[.int .i64 e] := by
  rcases us with ⟨l⟩
  match l, u1 with
  | [y], _ => simp at u4; rw [u4]
 refine ⟨[[.int .i64 e]], ⟨rfl, fun j hj => ?_, trivial⟩, fun w ps hps hw => ?_⟩
 ·obtain rfl : j = 0 := by simpa using hj
  exact ⟨rfl, .int _ _⟩
 ·obtain ⟨⟨b, o, sp⟩, rfl⟩ : ∃ p, ps = [p] := by
   match ps, hps with
   | [p], _ => exact ⟨p, rfl⟩
  obtain ⟨w1, w2, _⟩ := hw
  dsimp only at w1 w2
  subst w1
  obtain ⟨q1, q2⟩ := w2 0 (by simp)
  have hv0 : v0 = .pointer (some ⟨b, o, none⟩) := by simpa using hps
  subst hv0
  rw [e2]
  exact panR ⟨b, o, none⟩ e w q1 q2
theorem g466R (go : Nat → Option Obj) : gx Tryz.prog (N go) Tryz.f53 = some W8 := by kernel_rfl
theorem p466 (go : Nat → Option Obj) (X : Facts go) : ∀ args bs t, KD args bs = some t → de Tryz.prog (N go) 466 args bs t :=
 yq (gok1 go X) mixed (fn := Tryz.f53) Tryz.func53 (g466R go) rfl fun C cs h0 _ h2 h3 h4 => dsemR C cs _ h0 h2 h3 h4
theorem gok (go : Nat → Option Obj) (X : Facts go) : GOk Tryz.prog (N go) G := v8 fun f => aq (fun e => by
 obtain rfl := Nat.eq_of_beq_eq_true e
 exact ⟨⟨_, Tryz.func53, by kernel_rfl, by decide⟩, p466 go X⟩) fun _ => gok1 go X f
theorem laid : laidOutB Tryz.prog = true := by kernel_rfl
theorem own : ownKnob Tryz.prog.godebug = none := by kernel_rfl
theorem one_le (l : Lit) (H : Type) : 1 ≤ Rows.uptoBulk (DataW.lit (H := H) l) := by cases l <;> simp [Rows.uptoBulk]
def B : Bulk where
 f := Rows.uptoBulk
 g := Rows.uptoBulkAll
 str _ := by simp [Rows.uptoBulk]
 lit l := one_le l _
 nil := by simp [Rows.uptoBulk]
 slice _ _ := by simp [Rows.uptoBulk]
 agg _ := by simp [Rows.uptoBulk]
 none := by simp [Rows.uptoBulkAll]
 cons _ _ := by simp [Rows.uptoBulkAll]
/-- The variables, as the world holds them. -/
def goW (W : World) (g : Nat) : Option Obj := W.heap[g]?
end Go.Proofs.YtomphmeopjpejaaGreatDoor.tie
