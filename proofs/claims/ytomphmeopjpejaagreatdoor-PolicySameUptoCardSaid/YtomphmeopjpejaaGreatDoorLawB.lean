/- What this seat's program has to do with the functions of the abstract machine: function by function the same code, or a contract of the library. -/
import Derived.Test.YtomphmeopjpejaaGreatDoorDataA
import Derived.Test.YtomphmeopjpejaaGreatDoorContractsA
import Derived.Test.YtomphmeopjpejaaGreatDoorLawA
import Derived.Test.YtomphmeopjpejaaGreatDoorRows
import Derived.Test.YtomphmeopjpejaaGreatDoorMachineC
import Derived.Tactics
import Derived.Tactics2
import Derived.Laws.Pointers
set_option linter.unusedVariables false
set_option linter.unusedSimpArgs false
namespace Go.Proofs.YtomphmeopjpejaaGreatDoor.tie
open Go Go.AM Go.AM.IR Go.Proofs
set_option maxRecDepth 100000
def num (f : Nat) : Nat := bif Nat.blt f 554 then (bif Nat.blt f 435 then (bif Nat.blt f 263 then (bif Nat.blt f 233 then (bif Nat.blt f 186 then (bif Nat.blt f 181 then (bif Nat.beq f 178 then 75 else 1000000) else (bif Nat.blt f 183 then (bif Nat.beq f 181 then 107 else 1000000) else (bif Nat.beq f 183 then 148 else 1000000))) else (bif Nat.blt f 229 then (bif Nat.blt f 227 then (bif Nat.beq f 186 then 172 else 1000000) else (bif Nat.beq f 227 then 122 else 1000000)) else (bif Nat.blt f 231 then (bif Nat.beq f 229 then 87 else 1000000) else (bif Nat.beq f 231 then 166 else 1000000)))) else (bif Nat.blt f 250 then (bif Nat.blt f 247 then (bif Nat.blt f 246 then (bif Nat.beq f 233 then 163 else 1000000) else (bif Nat.beq f 246 then 123 else 1000000)) else (bif Nat.blt f 249 then (bif Nat.beq f 247 then 159 else 1000000) else (bif Nat.beq f 249 then 185 else 1000000))) else (bif Nat.blt f 258 then (bif Nat.blt f 252 then (bif Nat.beq f 250 then 187 else 1000000) else (bif Nat.beq f 252 then 186 else 1000000)) else (bif Nat.blt f 262 then (bif Nat.beq f 258 then 160 else 1000000) else (bif Nat.beq f 262 then 203 else 1000000))))) else (bif Nat.blt f 337 then (bif Nat.blt f 291 then (bif Nat.blt f 270 then (bif Nat.blt f 264 then (bif Nat.beq f 263 then 205 else 1000000) else (bif Nat.beq f 264 then 204 else 1000000)) else (bif Nat.blt f 272 then (bif Nat.beq f 270 then 216 else 1000000) else (bif Nat.beq f 272 then 202 else 1000000))) else (bif Nat.blt f 332 then (bif Nat.blt f 325 then (bif Nat.beq f 291 then 227 else 1000000) else (bif Nat.beq f 325 then 28 else 1000000)) else (bif Nat.blt f 334 then (bif Nat.beq f 332 then 45 else 1000000) else (bif Nat.beq f 334 then 130 else 1000000)))) else (bif Nat.blt f 346 then (bif Nat.blt f 340 then (bif Nat.blt f 339 then (bif Nat.beq f 337 then 88 else 1000000) else (bif Nat.beq f 339 then 162 else 1000000)) else (bif Nat.blt f 345 then (bif Nat.beq f 340 then 164 else 1000000) else (bif Nat.beq f 345 then 184 else 1000000))) else (bif Nat.blt f 405 then (bif Nat.blt f 347 then (bif Nat.beq f 346 then 188 else 1000000) else (bif Nat.beq f 347 then 206 else 1000000)) else (bif Nat.blt f 418 then (bif Nat.beq f 405 then 13 else 1000000) else (bif Nat.beq f 418 then 15 else 1000000)))))) else (bif Nat.blt f 515 then (bif Nat.blt f 507 then (bif Nat.blt f 454 then (bif Nat.blt f 452 then (bif Nat.blt f 451 then (bif Nat.beq f 435 then 21 else 1000000) else (bif Nat.beq f 451 then 11 else 1000000)) else (bif Nat.blt f 453 then (bif Nat.beq f 452 then 46 else 1000000) else (bif Nat.beq f 453 then 47 else 1000000))) else (bif Nat.blt f 479 then (bif Nat.blt f 466 then (bif Nat.beq f 454 then 48 else 1000000) else (bif Nat.beq f 466 then 53 else 1000000)) else (bif Nat.blt f 506 then (bif Nat.beq f 479 then 16 else 1000000) else (bif Nat.beq f 506 then 19 else 1000000)))) else (bif Nat.blt f 511 then (bif Nat.blt f 509 then (bif Nat.blt f 508 then (bif Nat.beq f 507 then 22 else 1000000) else (bif Nat.beq f 508 then 23 else 1000000)) else (bif Nat.blt f 510 then (bif Nat.beq f 509 then 24 else 1000000) else (bif Nat.beq f 510 then 25 else 1000000))) else (bif Nat.blt f 513 then (bif Nat.blt f 512 then (bif Nat.beq f 511 then 26 else 1000000) else (bif Nat.beq f 512 then 27 else 1000000)) else (bif Nat.blt f 514 then (bif Nat.beq f 513 then 29 else 1000000) else (bif Nat.beq f 514 then 30 else 1000000))))) else (bif Nat.blt f 523 then (bif Nat.blt f 519 then (bif Nat.blt f 517 then (bif Nat.blt f 516 then (bif Nat.beq f 515 then 31 else 1000000) else (bif Nat.beq f 516 then 32 else 1000000)) else (bif Nat.blt f 518 then (bif Nat.beq f 517 then 33 else 1000000) else (bif Nat.beq f 518 then 34 else 1000000))) else (bif Nat.blt f 521 then (bif Nat.blt f 520 then (bif Nat.beq f 519 then 35 else 1000000) else (bif Nat.beq f 520 then 36 else 1000000)) else (bif Nat.blt f 522 then (bif Nat.beq f 521 then 37 else 1000000) else (bif Nat.beq f 522 then 38 else 1000000)))) else (bif Nat.blt f 540 then (bif Nat.blt f 525 then (bif Nat.blt f 524 then (bif Nat.beq f 523 then 39 else 1000000) else (bif Nat.beq f 524 then 89 else 1000000)) else (bif Nat.blt f 526 then (bif Nat.beq f 525 then 90 else 1000000) else (bif Nat.beq f 526 then 91 else 1000000))) else (bif Nat.blt f 542 then (bif Nat.blt f 541 then (bif Nat.beq f 540 then 97 else 1000000) else (bif Nat.beq f 541 then 98 else 1000000)) else (bif Nat.blt f 543 then (bif Nat.beq f 542 then 99 else 1000000) else (bif Nat.beq f 543 then 100 else 1000000))))))) else (bif Nat.blt f 630 then (bif Nat.blt f 589 then (bif Nat.blt f 580 then (bif Nat.blt f 566 then (bif Nat.blt f 556 then (bif Nat.blt f 555 then (bif Nat.beq f 554 then 54 else 1000000) else (bif Nat.beq f 555 then 55 else 1000000)) else (bif Nat.blt f 557 then (bif Nat.beq f 556 then 56 else 1000000) else (bif Nat.beq f 557 then 57 else 1000000))) else (bif Nat.blt f 578 then (bif Nat.blt f 577 then (bif Nat.beq f 566 then 18 else 1000000) else (bif Nat.beq f 577 then 74 else 1000000)) else (bif Nat.blt f 579 then (bif Nat.beq f 578 then 76 else 1000000) else (bif Nat.beq f 579 then 77 else 1000000)))) else (bif Nat.blt f 585 then (bif Nat.blt f 582 then (bif Nat.blt f 581 then (bif Nat.beq f 580 then 78 else 1000000) else (bif Nat.beq f 581 then 79 else 1000000)) else (bif Nat.blt f 583 then (bif Nat.beq f 582 then 80 else 1000000) else (bif Nat.beq f 583 then 124 else 1000000))) else (bif Nat.blt f 587 then (bif Nat.blt f 586 then (bif Nat.beq f 585 then 129 else 1000000) else (bif Nat.beq f 586 then 131 else 1000000)) else (bif Nat.blt f 588 then (bif Nat.beq f 587 then 132 else 1000000) else (bif Nat.beq f 588 then 133 else 1000000))))) else (bif Nat.blt f 597 then (bif Nat.blt f 593 then (bif Nat.blt f 591 then (bif Nat.blt f 590 then (bif Nat.beq f 589 then 134 else 1000000) else (bif Nat.beq f 590 then 135 else 1000000)) else (bif Nat.blt f 592 then (bif Nat.beq f 591 then 136 else 1000000) else (bif Nat.beq f 592 then 137 else 1000000))) else (bif Nat.blt f 595 then (bif Nat.blt f 594 then (bif Nat.beq f 593 then 138 else 1000000) else (bif Nat.beq f 594 then 112 else 1000000)) else (bif Nat.blt f 596 then (bif Nat.beq f 595 then 139 else 1000000) else (bif Nat.beq f 596 then 113 else 1000000)))) else (bif Nat.blt f 626 then (bif Nat.blt f 624 then (bif Nat.blt f 623 then (bif Nat.beq f 597 then 140 else 1000000) else (bif Nat.beq f 623 then 106 else 1000000)) else (bif Nat.blt f 625 then (bif Nat.beq f 624 then 108 else 1000000) else (bif Nat.beq f 625 then 109 else 1000000))) else (bif Nat.blt f 628 then (bif Nat.blt f 627 then (bif Nat.beq f 626 then 110 else 1000000) else (bif Nat.beq f 627 then 111 else 1000000)) else (bif Nat.blt f 629 then (bif Nat.beq f 628 then 161 else 1000000) else (bif Nat.beq f 629 then 165 else 1000000)))))) else (bif Nat.blt f 670 then (bif Nat.blt f 657 then (bif Nat.blt f 648 then (bif Nat.blt f 646 then (bif Nat.blt f 631 then (bif Nat.beq f 630 then 152 else 1000000) else (bif Nat.beq f 631 then 167 else 1000000)) else (bif Nat.blt f 647 then (bif Nat.beq f 646 then 149 else 1000000) else (bif Nat.beq f 647 then 150 else 1000000))) else (bif Nat.blt f 654 then (bif Nat.blt f 653 then (bif Nat.beq f 648 then 151 else 1000000) else (bif Nat.beq f 653 then 173 else 1000000)) else (bif Nat.blt f 655 then (bif Nat.beq f 654 then 174 else 1000000) else (bif Nat.beq f 655 then 175 else 1000000)))) else (bif Nat.blt f 666 then (bif Nat.blt f 659 then (bif Nat.blt f 658 then (bif Nat.beq f 657 then 191 else 1000000) else (bif Nat.beq f 658 then 192 else 1000000)) else (bif Nat.blt f 660 then (bif Nat.beq f 659 then 193 else 1000000) else (bif Nat.beq f 660 then 194 else 1000000))) else (bif Nat.blt f 668 then (bif Nat.blt f 667 then (bif Nat.beq f 666 then 7 else 1000000) else (bif Nat.beq f 667 then 8 else 1000000)) else (bif Nat.blt f 669 then (bif Nat.beq f 668 then 9 else 1000000) else (bif Nat.beq f 669 then 10 else 1000000))))) else (bif Nat.blt f 678 then (bif Nat.blt f 674 then (bif Nat.blt f 672 then (bif Nat.blt f 671 then (bif Nat.beq f 670 then 20 else 1000000) else (bif Nat.beq f 671 then 59 else 1000000)) else (bif Nat.blt f 673 then (bif Nat.beq f 672 then 60 else 1000000) else (bif Nat.beq f 673 then 61 else 1000000))) else (bif Nat.blt f 676 then (bif Nat.blt f 675 then (bif Nat.beq f 674 then 62 else 1000000) else (bif Nat.beq f 675 then 63 else 1000000)) else (bif Nat.blt f 677 then (bif Nat.beq f 676 then 64 else 1000000) else (bif Nat.beq f 677 then 65 else 1000000)))) else (bif Nat.blt f 682 then (bif Nat.blt f 680 then (bif Nat.blt f 679 then (bif Nat.beq f 678 then 66 else 1000000) else (bif Nat.beq f 679 then 67 else 1000000)) else (bif Nat.blt f 681 then (bif Nat.beq f 680 then 68 else 1000000) else (bif Nat.beq f 681 then 69 else 1000000))) else (bif Nat.blt f 684 then (bif Nat.blt f 683 then (bif Nat.beq f 682 then 70 else 1000000) else (bif Nat.beq f 683 then 71 else 1000000)) else (bif Nat.blt f 685 then (bif Nat.beq f 684 then 72 else 1000000) else (bif Nat.beq f 685 then 73 else 1000000)))))))
def fid (f : Nat) : Nat := bif Nat.blt f 89 then (bif Nat.blt f 46 then (bif Nat.blt f 25 then (bif Nat.blt f 16 then (bif Nat.blt f 10 then (bif Nat.blt f 8 then (bif Nat.beq f 7 then 666 else 1000000) else (bif Nat.blt f 9 then (bif Nat.beq f 8 then 667 else 1000000) else (bif Nat.beq f 9 then 668 else 1000000))) else (bif Nat.blt f 13 then (bif Nat.blt f 11 then (bif Nat.beq f 10 then 669 else 1000000) else (bif Nat.beq f 11 then 451 else 1000000)) else (bif Nat.blt f 15 then (bif Nat.beq f 13 then 405 else 1000000) else (bif Nat.beq f 15 then 418 else 1000000)))) else (bif Nat.blt f 21 then (bif Nat.blt f 19 then (bif Nat.blt f 18 then (bif Nat.beq f 16 then 479 else 1000000) else (bif Nat.beq f 18 then 566 else 1000000)) else (bif Nat.blt f 20 then (bif Nat.beq f 19 then 506 else 1000000) else (bif Nat.beq f 20 then 670 else 1000000))) else (bif Nat.blt f 23 then (bif Nat.blt f 22 then (bif Nat.beq f 21 then 435 else 1000000) else (bif Nat.beq f 22 then 507 else 1000000)) else (bif Nat.blt f 24 then (bif Nat.beq f 23 then 508 else 1000000) else (bif Nat.beq f 24 then 509 else 1000000))))) else (bif Nat.blt f 33 then (bif Nat.blt f 29 then (bif Nat.blt f 27 then (bif Nat.blt f 26 then (bif Nat.beq f 25 then 510 else 1000000) else (bif Nat.beq f 26 then 511 else 1000000)) else (bif Nat.blt f 28 then (bif Nat.beq f 27 then 512 else 1000000) else (bif Nat.beq f 28 then 325 else 1000000))) else (bif Nat.blt f 31 then (bif Nat.blt f 30 then (bif Nat.beq f 29 then 513 else 1000000) else (bif Nat.beq f 30 then 514 else 1000000)) else (bif Nat.blt f 32 then (bif Nat.beq f 31 then 515 else 1000000) else (bif Nat.beq f 32 then 516 else 1000000)))) else (bif Nat.blt f 37 then (bif Nat.blt f 35 then (bif Nat.blt f 34 then (bif Nat.beq f 33 then 517 else 1000000) else (bif Nat.beq f 34 then 518 else 1000000)) else (bif Nat.blt f 36 then (bif Nat.beq f 35 then 519 else 1000000) else (bif Nat.beq f 36 then 520 else 1000000))) else (bif Nat.blt f 39 then (bif Nat.blt f 38 then (bif Nat.beq f 37 then 521 else 1000000) else (bif Nat.beq f 38 then 522 else 1000000)) else (bif Nat.blt f 45 then (bif Nat.beq f 39 then 523 else 1000000) else (bif Nat.beq f 45 then 332 else 1000000)))))) else (bif Nat.blt f 67 then (bif Nat.blt f 59 then (bif Nat.blt f 54 then (bif Nat.blt f 48 then (bif Nat.blt f 47 then (bif Nat.beq f 46 then 452 else 1000000) else (bif Nat.beq f 47 then 453 else 1000000)) else (bif Nat.blt f 53 then (bif Nat.beq f 48 then 454 else 1000000) else (bif Nat.beq f 53 then 466 else 1000000))) else (bif Nat.blt f 56 then (bif Nat.blt f 55 then (bif Nat.beq f 54 then 554 else 1000000) else (bif Nat.beq f 55 then 555 else 1000000)) else (bif Nat.blt f 57 then (bif Nat.beq f 56 then 556 else 1000000) else (bif Nat.beq f 57 then 557 else 1000000)))) else (bif Nat.blt f 63 then (bif Nat.blt f 61 then (bif Nat.blt f 60 then (bif Nat.beq f 59 then 671 else 1000000) else (bif Nat.beq f 60 then 672 else 1000000)) else (bif Nat.blt f 62 then (bif Nat.beq f 61 then 673 else 1000000) else (bif Nat.beq f 62 then 674 else 1000000))) else (bif Nat.blt f 65 then (bif Nat.blt f 64 then (bif Nat.beq f 63 then 675 else 1000000) else (bif Nat.beq f 64 then 676 else 1000000)) else (bif Nat.blt f 66 then (bif Nat.beq f 65 then 677 else 1000000) else (bif Nat.beq f 66 then 678 else 1000000))))) else (bif Nat.blt f 75 then (bif Nat.blt f 71 then (bif Nat.blt f 69 then (bif Nat.blt f 68 then (bif Nat.beq f 67 then 679 else 1000000) else (bif Nat.beq f 68 then 680 else 1000000)) else (bif Nat.blt f 70 then (bif Nat.beq f 69 then 681 else 1000000) else (bif Nat.beq f 70 then 682 else 1000000))) else (bif Nat.blt f 73 then (bif Nat.blt f 72 then (bif Nat.beq f 71 then 683 else 1000000) else (bif Nat.beq f 72 then 684 else 1000000)) else (bif Nat.blt f 74 then (bif Nat.beq f 73 then 685 else 1000000) else (bif Nat.beq f 74 then 577 else 1000000)))) else (bif Nat.blt f 79 then (bif Nat.blt f 77 then (bif Nat.blt f 76 then (bif Nat.beq f 75 then 178 else 1000000) else (bif Nat.beq f 76 then 578 else 1000000)) else (bif Nat.blt f 78 then (bif Nat.beq f 77 then 579 else 1000000) else (bif Nat.beq f 78 then 580 else 1000000))) else (bif Nat.blt f 87 then (bif Nat.blt f 80 then (bif Nat.beq f 79 then 581 else 1000000) else (bif Nat.beq f 80 then 582 else 1000000)) else (bif Nat.blt f 88 then (bif Nat.beq f 87 then 229 else 1000000) else (bif Nat.beq f 88 then 337 else 1000000))))))) else (bif Nat.blt f 150 then (bif Nat.blt f 123 then (bif Nat.blt f 107 then (bif Nat.blt f 98 then (bif Nat.blt f 91 then (bif Nat.blt f 90 then (bif Nat.beq f 89 then 524 else 1000000) else (bif Nat.beq f 90 then 525 else 1000000)) else (bif Nat.blt f 97 then (bif Nat.beq f 91 then 526 else 1000000) else (bif Nat.beq f 97 then 540 else 1000000))) else (bif Nat.blt f 100 then (bif Nat.blt f 99 then (bif Nat.beq f 98 then 541 else 1000000) else (bif Nat.beq f 99 then 542 else 1000000)) else (bif Nat.blt f 106 then (bif Nat.beq f 100 then 543 else 1000000) else (bif Nat.beq f 106 then 623 else 1000000)))) else (bif Nat.blt f 111 then (bif Nat.blt f 109 then (bif Nat.blt f 108 then (bif Nat.beq f 107 then 181 else 1000000) else (bif Nat.beq f 108 then 624 else 1000000)) else (bif Nat.blt f 110 then (bif Nat.beq f 109 then 625 else 1000000) else (bif Nat.beq f 110 then 626 else 1000000))) else (bif Nat.blt f 113 then (bif Nat.blt f 112 then (bif Nat.beq f 111 then 627 else 1000000) else (bif Nat.beq f 112 then 594 else 1000000)) else (bif Nat.blt f 122 then (bif Nat.beq f 113 then 596 else 1000000) else (bif Nat.beq f 122 then 227 else 1000000))))) else (bif Nat.blt f 135 then (bif Nat.blt f 131 then (bif Nat.blt f 129 then (bif Nat.blt f 124 then (bif Nat.beq f 123 then 246 else 1000000) else (bif Nat.beq f 124 then 583 else 1000000)) else (bif Nat.blt f 130 then (bif Nat.beq f 129 then 585 else 1000000) else (bif Nat.beq f 130 then 334 else 1000000))) else (bif Nat.blt f 133 then (bif Nat.blt f 132 then (bif Nat.beq f 131 then 586 else 1000000) else (bif Nat.beq f 132 then 587 else 1000000)) else (bif Nat.blt f 134 then (bif Nat.beq f 133 then 588 else 1000000) else (bif Nat.beq f 134 then 589 else 1000000)))) else (bif Nat.blt f 139 then (bif Nat.blt f 137 then (bif Nat.blt f 136 then (bif Nat.beq f 135 then 590 else 1000000) else (bif Nat.beq f 136 then 591 else 1000000)) else (bif Nat.blt f 138 then (bif Nat.beq f 137 then 592 else 1000000) else (bif Nat.beq f 138 then 593 else 1000000))) else (bif Nat.blt f 148 then (bif Nat.blt f 140 then (bif Nat.beq f 139 then 595 else 1000000) else (bif Nat.beq f 140 then 597 else 1000000)) else (bif Nat.blt f 149 then (bif Nat.beq f 148 then 183 else 1000000) else (bif Nat.beq f 149 then 646 else 1000000)))))) else (bif Nat.blt f 184 then (bif Nat.blt f 164 then (bif Nat.blt f 160 then (bif Nat.blt f 152 then (bif Nat.blt f 151 then (bif Nat.beq f 150 then 647 else 1000000) else (bif Nat.beq f 151 then 648 else 1000000)) else (bif Nat.blt f 159 then (bif Nat.beq f 152 then 630 else 1000000) else (bif Nat.beq f 159 then 247 else 1000000))) else (bif Nat.blt f 162 then (bif Nat.blt f 161 then (bif Nat.beq f 160 then 258 else 1000000) else (bif Nat.beq f 161 then 628 else 1000000)) else (bif Nat.blt f 163 then (bif Nat.beq f 162 then 339 else 1000000) else (bif Nat.beq f 163 then 233 else 1000000)))) else (bif Nat.blt f 172 then (bif Nat.blt f 166 then (bif Nat.blt f 165 then (bif Nat.beq f 164 then 340 else 1000000) else (bif Nat.beq f 165 then 629 else 1000000)) else (bif Nat.blt f 167 then (bif Nat.beq f 166 then 231 else 1000000) else (bif Nat.beq f 167 then 631 else 1000000))) else (bif Nat.blt f 174 then (bif Nat.blt f 173 then (bif Nat.beq f 172 then 186 else 1000000) else (bif Nat.beq f 173 then 653 else 1000000)) else (bif Nat.blt f 175 then (bif Nat.beq f 174 then 654 else 1000000) else (bif Nat.beq f 175 then 655 else 1000000))))) else (bif Nat.blt f 194 then (bif Nat.blt f 188 then (bif Nat.blt f 186 then (bif Nat.blt f 185 then (bif Nat.beq f 184 then 345 else 1000000) else (bif Nat.beq f 185 then 249 else 1000000)) else (bif Nat.blt f 187 then (bif Nat.beq f 186 then 252 else 1000000) else (bif Nat.beq f 187 then 250 else 1000000))) else (bif Nat.blt f 192 then (bif Nat.blt f 191 then (bif Nat.beq f 188 then 346 else 1000000) else (bif Nat.beq f 191 then 657 else 1000000)) else (bif Nat.blt f 193 then (bif Nat.beq f 192 then 658 else 1000000) else (bif Nat.beq f 193 then 659 else 1000000)))) else (bif Nat.blt f 205 then (bif Nat.blt f 203 then (bif Nat.blt f 202 then (bif Nat.beq f 194 then 660 else 1000000) else (bif Nat.beq f 202 then 272 else 1000000)) else (bif Nat.blt f 204 then (bif Nat.beq f 203 then 262 else 1000000) else (bif Nat.beq f 204 then 264 else 1000000))) else (bif Nat.blt f 216 then (bif Nat.blt f 206 then (bif Nat.beq f 205 then 263 else 1000000) else (bif Nat.beq f 206 then 347 else 1000000)) else (bif Nat.blt f 227 then (bif Nat.beq f 216 then 270 else 1000000) else (bif Nat.beq f 227 then 291 else 1000000)))))))
def N (go : Nat → Option Obj) : Nums := ⟨num, fid, id, id, fun _ => none, go⟩
theorem c178 (go : Nat → Option Obj) : ((Tryz.prog.funcs[75]?).bind (compFun Tryz.prog (N go) false)) = some f178 := by kernel_rfl
theorem c181 (go : Nat → Option Obj) : ((Tryz.prog.funcs[107]?).bind (compFun Tryz.prog (N go) false)) = some f181 := by kernel_rfl
theorem c183 (go : Nat → Option Obj) : ((Tryz.prog.funcs[148]?).bind (compFun Tryz.prog (N go) false)) = some f183 := by kernel_rfl
theorem c186 (go : Nat → Option Obj) : ((Tryz.prog.funcs[172]?).bind (compFun Tryz.prog (N go) false)) = some f186 := by kernel_rfl
theorem c227 (go : Nat → Option Obj) : ((Tryz.prog.funcs[122]?).bind (compFun Tryz.prog (N go) false)) = some f227 := by kernel_rfl
theorem c229 (go : Nat → Option Obj) : ((Tryz.prog.funcs[87]?).bind (compFun Tryz.prog (N go) false)) = some f229 := by kernel_rfl
theorem c231 (go : Nat → Option Obj) : ((Tryz.prog.funcs[166]?).bind (compFun Tryz.prog (N go) false)) = some f231 := by kernel_rfl
theorem c233 (go : Nat → Option Obj) : ((Tryz.prog.funcs[163]?).bind (compFun Tryz.prog (N go) false)) = some f233 := by kernel_rfl
theorem c250 (go : Nat → Option Obj) : ((Tryz.prog.funcs[187]?).bind (compFun Tryz.prog (N go) false)) = some f250 := by kernel_rfl
theorem c325 (go : Nat → Option Obj) : ((Tryz.prog.funcs[28]?).bind (compFun Tryz.prog (N go) false)) = some f325 := by kernel_rfl
theorem c332 (go : Nat → Option Obj) : ((Tryz.prog.funcs[45]?).bind (compFun Tryz.prog (N go) false)) = some f332 := by kernel_rfl
theorem c334 (go : Nat → Option Obj) : ((Tryz.prog.funcs[130]?).bind (compFun Tryz.prog (N go) false)) = some f334 := by kernel_rfl
theorem c337 (go : Nat → Option Obj) : ((Tryz.prog.funcs[88]?).bind (compFun Tryz.prog (N go) false)) = some f337 := by kernel_rfl
theorem c339 (go : Nat → Option Obj) : ((Tryz.prog.funcs[162]?).bind (compFun Tryz.prog (N go) false)) = some f339 := by kernel_rfl
theorem c340 (go : Nat → Option Obj) : ((Tryz.prog.funcs[164]?).bind (compFun Tryz.prog (N go) false)) = some f340 := by kernel_rfl
theorem c346 (go : Nat → Option Obj) : ((Tryz.prog.funcs[188]?).bind (compFun Tryz.prog (N go) false)) = some f346 := by kernel_rfl
theorem c347 (go : Nat → Option Obj) : ((Tryz.prog.funcs[206]?).bind (compFun Tryz.prog (N go) false)) = some f347 := by kernel_rfl
theorem c405 (go : Nat → Option Obj) : ((Tryz.prog.funcs[13]?).bind (compFun Tryz.prog (N go) false)) = some f405 := by kernel_rfl
theorem c418 (go : Nat → Option Obj) : ((Tryz.prog.funcs[15]?).bind (compFun Tryz.prog (N go) false)) = some f418 := by kernel_rfl
theorem c435 (go : Nat → Option Obj) : ((Tryz.prog.funcs[21]?).bind (compFun Tryz.prog (N go) false)) = some f435 := by kernel_rfl
theorem c451 (go : Nat → Option Obj) : ((Tryz.prog.funcs[11]?).bind (compFun Tryz.prog (N go) false)) = some f451 := by kernel_rfl
theorem c452 (go : Nat → Option Obj) : ((Tryz.prog.funcs[46]?).bind (compFun Tryz.prog (N go) false)) = some f452 := by kernel_rfl
theorem c453 (go : Nat → Option Obj) : ((Tryz.prog.funcs[47]?).bind (compFun Tryz.prog (N go) false)) = some f453 := by kernel_rfl
theorem c454 (go : Nat → Option Obj) : ((Tryz.prog.funcs[48]?).bind (compFun Tryz.prog (N go) false)) = some f454 := by kernel_rfl
theorem c479 (go : Nat → Option Obj) : ((Tryz.prog.funcs[16]?).bind (compFun Tryz.prog (N go) false)) = some f479 := by kernel_rfl
theorem c506 (go : Nat → Option Obj) : ((Tryz.prog.funcs[19]?).bind (compFun Tryz.prog (N go) false)) = some f506 := by kernel_rfl
theorem c507 (go : Nat → Option Obj) : ((Tryz.prog.funcs[22]?).bind (compFun Tryz.prog (N go) false)) = some f507 := by kernel_rfl
theorem c508 (go : Nat → Option Obj) : ((Tryz.prog.funcs[23]?).bind (compFun Tryz.prog (N go) false)) = some f508 := by kernel_rfl
theorem c509 (go : Nat → Option Obj) : ((Tryz.prog.funcs[24]?).bind (compFun Tryz.prog (N go) false)) = some f509 := by kernel_rfl
theorem c510 (go : Nat → Option Obj) : ((Tryz.prog.funcs[25]?).bind (compFun Tryz.prog (N go) false)) = some f510 := by kernel_rfl
theorem c511 (go : Nat → Option Obj) : ((Tryz.prog.funcs[26]?).bind (compFun Tryz.prog (N go) false)) = some f511 := by kernel_rfl
theorem c512 (go : Nat → Option Obj) : ((Tryz.prog.funcs[27]?).bind (compFun Tryz.prog (N go) false)) = some f512 := by kernel_rfl
theorem c513 (go : Nat → Option Obj) : ((Tryz.prog.funcs[29]?).bind (compFun Tryz.prog (N go) false)) = some f513 := by kernel_rfl
theorem c514 (go : Nat → Option Obj) : ((Tryz.prog.funcs[30]?).bind (compFun Tryz.prog (N go) false)) = some f514 := by kernel_rfl
theorem c515 (go : Nat → Option Obj) : ((Tryz.prog.funcs[31]?).bind (compFun Tryz.prog (N go) false)) = some f515 := by kernel_rfl
theorem c517 (go : Nat → Option Obj) : ((Tryz.prog.funcs[33]?).bind (compFun Tryz.prog (N go) false)) = some f517 := by kernel_rfl
theorem c518 (go : Nat → Option Obj) : ((Tryz.prog.funcs[34]?).bind (compFun Tryz.prog (N go) false)) = some f518 := by kernel_rfl
theorem c519 (go : Nat → Option Obj) : ((Tryz.prog.funcs[35]?).bind (compFun Tryz.prog (N go) false)) = some f519 := by kernel_rfl
theorem c520 (go : Nat → Option Obj) : ((Tryz.prog.funcs[36]?).bind (compFun Tryz.prog (N go) false)) = some f520 := by kernel_rfl
theorem c521 (go : Nat → Option Obj) : ((Tryz.prog.funcs[37]?).bind (compFun Tryz.prog (N go) false)) = some f521 := by kernel_rfl
theorem c522 (go : Nat → Option Obj) : ((Tryz.prog.funcs[38]?).bind (compFun Tryz.prog (N go) false)) = some f522 := by kernel_rfl
theorem c523 (go : Nat → Option Obj) : ((Tryz.prog.funcs[39]?).bind (compFun Tryz.prog (N go) false)) = some f523 := by kernel_rfl
theorem c524 (go : Nat → Option Obj) : ((Tryz.prog.funcs[89]?).bind (compFun Tryz.prog (N go) false)) = some f524 := by kernel_rfl
theorem c525 (go : Nat → Option Obj) : ((Tryz.prog.funcs[90]?).bind (compFun Tryz.prog (N go) false)) = some f525 := by kernel_rfl
theorem c526 (go : Nat → Option Obj) : ((Tryz.prog.funcs[91]?).bind (compFun Tryz.prog (N go) false)) = some f526 := by kernel_rfl
theorem c541 (go : Nat → Option Obj) : ((Tryz.prog.funcs[98]?).bind (compFun Tryz.prog (N go) false)) = some f541 := by kernel_rfl
theorem c542 (go : Nat → Option Obj) : ((Tryz.prog.funcs[99]?).bind (compFun Tryz.prog (N go) false)) = some f542 := by kernel_rfl
theorem c543 (go : Nat → Option Obj) : ((Tryz.prog.funcs[100]?).bind (compFun Tryz.prog (N go) false)) = some f543 := by kernel_rfl
theorem c554 (go : Nat → Option Obj) : ((Tryz.prog.funcs[54]?).bind (compFun Tryz.prog (N go) false)) = some f554 := by kernel_rfl
theorem c555 (go : Nat → Option Obj) : ((Tryz.prog.funcs[55]?).bind (compFun Tryz.prog (N go) false)) = some f555 := by kernel_rfl
theorem c556 (go : Nat → Option Obj) : ((Tryz.prog.funcs[56]?).bind (compFun Tryz.prog (N go) false)) = some f556 := by kernel_rfl
theorem c557 (go : Nat → Option Obj) : ((Tryz.prog.funcs[57]?).bind (compFun Tryz.prog (N go) false)) = some f557 := by kernel_rfl
theorem c566 (go : Nat → Option Obj) : ((Tryz.prog.funcs[18]?).bind (compFun Tryz.prog (N go) false)) = some f566 := by kernel_rfl
theorem c577 (go : Nat → Option Obj) : ((Tryz.prog.funcs[74]?).bind (compFun Tryz.prog (N go) false)) = some f577 := by kernel_rfl
theorem c579 (go : Nat → Option Obj) : ((Tryz.prog.funcs[77]?).bind (compFun Tryz.prog (N go) false)) = some f579 := by kernel_rfl
theorem c580 (go : Nat → Option Obj) : ((Tryz.prog.funcs[78]?).bind (compFun Tryz.prog (N go) false)) = some f580 := by kernel_rfl
theorem c581 (go : Nat → Option Obj) : ((Tryz.prog.funcs[79]?).bind (compFun Tryz.prog (N go) false)) = some f581 := by kernel_rfl
theorem c582 (go : Nat → Option Obj) : ((Tryz.prog.funcs[80]?).bind (compFun Tryz.prog (N go) false)) = some f582 := by kernel_rfl
theorem c583 (go : Nat → Option Obj) : ((Tryz.prog.funcs[124]?).bind (compFun Tryz.prog (N go) false)) = some f583 := by kernel_rfl
theorem c585 (go : Nat → Option Obj) : ((Tryz.prog.funcs[129]?).bind (compFun Tryz.prog (N go) false)) = some f585 := by kernel_rfl
theorem c586 (go : Nat → Option Obj) : ((Tryz.prog.funcs[131]?).bind (compFun Tryz.prog (N go) false)) = some f586 := by kernel_rfl
theorem c587 (go : Nat → Option Obj) : ((Tryz.prog.funcs[132]?).bind (compFun Tryz.prog (N go) false)) = some f587 := by kernel_rfl
theorem c588 (go : Nat → Option Obj) : ((Tryz.prog.funcs[133]?).bind (compFun Tryz.prog (N go) false)) = some f588 := by kernel_rfl
theorem c589 (go : Nat → Option Obj) : ((Tryz.prog.funcs[134]?).bind (compFun Tryz.prog (N go) false)) = some f589 := by kernel_rfl
theorem c590 (go : Nat → Option Obj) : ((Tryz.prog.funcs[135]?).bind (compFun Tryz.prog (N go) false)) = some f590 := by kernel_rfl
theorem c591 (go : Nat → Option Obj) : ((Tryz.prog.funcs[136]?).bind (compFun Tryz.prog (N go) false)) = some f591 := by kernel_rfl
theorem c592 (go : Nat → Option Obj) : ((Tryz.prog.funcs[137]?).bind (compFun Tryz.prog (N go) false)) = some f592 := by kernel_rfl
theorem c593 (go : Nat → Option Obj) : ((Tryz.prog.funcs[138]?).bind (compFun Tryz.prog (N go) false)) = some f593 := by kernel_rfl
theorem c594 (go : Nat → Option Obj) : ((Tryz.prog.funcs[112]?).bind (compFun Tryz.prog (N go) false)) = some f594 := by kernel_rfl
theorem c595 (go : Nat → Option Obj) : ((Tryz.prog.funcs[139]?).bind (compFun Tryz.prog (N go) false)) = some f595 := by kernel_rfl
theorem c596 (go : Nat → Option Obj) : ((Tryz.prog.funcs[113]?).bind (compFun Tryz.prog (N go) false)) = some f596 := by kernel_rfl
theorem c597 (go : Nat → Option Obj) : ((Tryz.prog.funcs[140]?).bind (compFun Tryz.prog (N go) false)) = some f597 := by kernel_rfl
theorem c623 (go : Nat → Option Obj) : ((Tryz.prog.funcs[106]?).bind (compFun Tryz.prog (N go) false)) = some f623 := by kernel_rfl
theorem c624 (go : Nat → Option Obj) : ((Tryz.prog.funcs[108]?).bind (compFun Tryz.prog (N go) false)) = some f624 := by kernel_rfl
theorem c625 (go : Nat → Option Obj) : ((Tryz.prog.funcs[109]?).bind (compFun Tryz.prog (N go) false)) = some f625 := by kernel_rfl
theorem c626 (go : Nat → Option Obj) : ((Tryz.prog.funcs[110]?).bind (compFun Tryz.prog (N go) false)) = some f626 := by kernel_rfl
theorem c627 (go : Nat → Option Obj) : ((Tryz.prog.funcs[111]?).bind (compFun Tryz.prog (N go) false)) = some f627 := by kernel_rfl
theorem c628 (go : Nat → Option Obj) : ((Tryz.prog.funcs[161]?).bind (compFun Tryz.prog (N go) false)) = some f628 := by kernel_rfl
theorem c629 (go : Nat → Option Obj) : ((Tryz.prog.funcs[165]?).bind (compFun Tryz.prog (N go) false)) = some f629 := by kernel_rfl
theorem c630 (go : Nat → Option Obj) : ((Tryz.prog.funcs[152]?).bind (compFun Tryz.prog (N go) false)) = some f630 := by kernel_rfl
theorem c631 (go : Nat → Option Obj) : ((Tryz.prog.funcs[167]?).bind (compFun Tryz.prog (N go) false)) = some f631 := by kernel_rfl
theorem c646 (go : Nat → Option Obj) : ((Tryz.prog.funcs[149]?).bind (compFun Tryz.prog (N go) false)) = some f646 := by kernel_rfl
theorem c647 (go : Nat → Option Obj) : ((Tryz.prog.funcs[150]?).bind (compFun Tryz.prog (N go) false)) = some f647 := by kernel_rfl
theorem c648 (go : Nat → Option Obj) : ((Tryz.prog.funcs[151]?).bind (compFun Tryz.prog (N go) false)) = some f648 := by kernel_rfl
theorem c653 (go : Nat → Option Obj) : ((Tryz.prog.funcs[173]?).bind (compFun Tryz.prog (N go) false)) = some f653 := by kernel_rfl
theorem c654 (go : Nat → Option Obj) : ((Tryz.prog.funcs[174]?).bind (compFun Tryz.prog (N go) false)) = some f654 := by kernel_rfl
theorem c655 (go : Nat → Option Obj) : ((Tryz.prog.funcs[175]?).bind (compFun Tryz.prog (N go) false)) = some f655 := by kernel_rfl
theorem c657 (go : Nat → Option Obj) : ((Tryz.prog.funcs[191]?).bind (compFun Tryz.prog (N go) false)) = some f657 := by kernel_rfl
theorem c658 (go : Nat → Option Obj) : ((Tryz.prog.funcs[192]?).bind (compFun Tryz.prog (N go) false)) = some f658 := by kernel_rfl
theorem c659 (go : Nat → Option Obj) : ((Tryz.prog.funcs[193]?).bind (compFun Tryz.prog (N go) false)) = some f659 := by kernel_rfl
theorem c660 (go : Nat → Option Obj) : ((Tryz.prog.funcs[194]?).bind (compFun Tryz.prog (N go) false)) = some f660 := by kernel_rfl
theorem c666 (go : Nat → Option Obj) : ((Tryz.prog.funcs[7]?).bind (compFun Tryz.prog (N go) false)) = some f666 := by kernel_rfl
theorem c667 (go : Nat → Option Obj) : ((Tryz.prog.funcs[8]?).bind (compFun Tryz.prog (N go) false)) = some f667 := by kernel_rfl
theorem c668 (go : Nat → Option Obj) : ((Tryz.prog.funcs[9]?).bind (compFun Tryz.prog (N go) false)) = some f668 := by kernel_rfl
theorem c669 (go : Nat → Option Obj) : ((Tryz.prog.funcs[10]?).bind (compFun Tryz.prog (N go) false)) = some f669 := by kernel_rfl
theorem c670 (go : Nat → Option Obj) : ((Tryz.prog.funcs[20]?).bind (compFun Tryz.prog (N go) false)) = some f670 := by kernel_rfl
theorem c671 (go : Nat → Option Obj) : ((Tryz.prog.funcs[59]?).bind (compFun Tryz.prog (N go) false)) = some f671 := by kernel_rfl
theorem c672 (go : Nat → Option Obj) : ((Tryz.prog.funcs[60]?).bind (compFun Tryz.prog (N go) false)) = some f672 := by kernel_rfl
theorem c673 (go : Nat → Option Obj) : ((Tryz.prog.funcs[61]?).bind (compFun Tryz.prog (N go) false)) = some f673 := by kernel_rfl
theorem c674 (go : Nat → Option Obj) : ((Tryz.prog.funcs[62]?).bind (compFun Tryz.prog (N go) false)) = some f674 := by kernel_rfl
theorem c675 (go : Nat → Option Obj) : ((Tryz.prog.funcs[63]?).bind (compFun Tryz.prog (N go) false)) = some f675 := by kernel_rfl
theorem c676 (go : Nat → Option Obj) : ((Tryz.prog.funcs[64]?).bind (compFun Tryz.prog (N go) false)) = some f676 := by kernel_rfl
theorem c677 (go : Nat → Option Obj) : ((Tryz.prog.funcs[65]?).bind (compFun Tryz.prog (N go) false)) = some f677 := by kernel_rfl
theorem c678 (go : Nat → Option Obj) : ((Tryz.prog.funcs[66]?).bind (compFun Tryz.prog (N go) false)) = some f678 := by kernel_rfl
theorem c679 (go : Nat → Option Obj) : ((Tryz.prog.funcs[67]?).bind (compFun Tryz.prog (N go) false)) = some f679 := by kernel_rfl
theorem c680 (go : Nat → Option Obj) : ((Tryz.prog.funcs[68]?).bind (compFun Tryz.prog (N go) false)) = some f680 := by kernel_rfl
theorem c681 (go : Nat → Option Obj) : ((Tryz.prog.funcs[69]?).bind (compFun Tryz.prog (N go) false)) = some f681 := by kernel_rfl
theorem c682 (go : Nat → Option Obj) : ((Tryz.prog.funcs[70]?).bind (compFun Tryz.prog (N go) false)) = some f682 := by kernel_rfl
theorem c683 (go : Nat → Option Obj) : ((Tryz.prog.funcs[71]?).bind (compFun Tryz.prog (N go) false)) = some f683 := by kernel_rfl
theorem c684 (go : Nat → Option Obj) : ((Tryz.prog.funcs[72]?).bind (compFun Tryz.prog (N go) false)) = some f684 := by kernel_rfl
theorem c685 (go : Nat → Option Obj) : ((Tryz.prog.funcs[73]?).bind (compFun Tryz.prog (N go) false)) = some f685 := by kernel_rfl
/-- What the contracts ask of the world. -/
structure Facts (go : Nat → Option Obj) : Prop where
  pow : TabAt Tryz.prog (N go) "internal/strconv.uint64pow10" .u64 Lib.pow10Tab
  max : IntAt (N go) 1
  esyn : ErrAt (N go) 4
  eran : ErrAt (N go) 5
theorem p246 (go : Nat → Option Obj) (X : Facts go) : ∀ args bs t, pItoa args bs = some t → FSem Tryz.prog (N go) 246 args bs t := itoa_fsem Tryz.laysM171 rfl X.pow
theorem p247 (go : Nat → Option Obj) (X : Facts go) : ∀ args bs t, pJoin args bs = some t → FSem Tryz.prog (N go) 247 args bs t := join_fsem Tryz.lays156 Tryz.Builder_Extra_156 rfl
theorem p249 (go : Nat → Option Obj) (X : Facts go) : ∀ args bs t, pSplit args bs = some t → FSem Tryz.prog (N go) 249 args bs t := split_fsem Tryz.lays146 (by kernel_rfl) rfl X.max
theorem p252 (go : Nat → Option Obj) (X : Facts go) : ∀ args bs t, pCut args bs = some t → FSem Tryz.prog (N go) 252 args bs t := cut_fsem Tryz.lays145 rfl X.max
theorem p263 (go : Nat → Option Obj) (X : Facts go) : ∀ args bs t, (pAtoi 273) args bs = some t → FSem Tryz.prog (N go) 263 args bs t := atoi_fsem Tryz.laysC172 rfl rfl X.esyn X.eran
theorem p345 (go : Nat → Option Obj) (X : Facts go) : ∀ args bs t, pContains args bs = some t → FSem Tryz.prog (N go) 345 args bs t := contains_fsem Tryz.lays144 rfl X.max
theorem mixed : Tryz.prog.follows .mixedOrders = true := by kernel_rfl
theorem gok0 (go : Nat → Option Obj) (X : Facts go) : GOk Tryz.prog (N go) G0 := gok_of fun f => okF_ite (fun _ => okF_ite (fun _ => okF_ite (fun _ => okF_ite (fun _ => okF_ite (fun _ => okF_ite (fun _ => okF_leaf rfl (c178 go)) fun _ => okF_ite (fun _ => okF_leaf rfl (c181 go)) fun _ => okF_leaf rfl (c183 go)) fun _ => okF_ite (fun _ => okF_ite (fun _ => okF_leaf rfl (c186 go)) fun _ => okF_leaf rfl (c227 go)) fun _ => okF_ite (fun _ => okF_leaf rfl (c229 go)) fun _ => okF_leaf rfl (c231 go)) fun _ => okF_ite (fun _ => okF_ite (fun _ => okF_leaf rfl (c233 go)) fun _ => okF_ite (fun _ => okF_prim rfl ⟨_, Tryz.func123, by kernel_rfl, by decide⟩ (p246 go X)) fun _ => okF_prim rfl ⟨_, Tryz.func159, by kernel_rfl, by decide⟩ (p247 go X)) fun _ => okF_ite (fun _ => okF_ite (fun _ => okF_prim rfl ⟨_, Tryz.func185, by kernel_rfl, by decide⟩ (p249 go X)) fun _ => okF_leaf rfl (c250 go)) fun _ => okF_ite (fun _ => okF_prim rfl ⟨_, Tryz.func186, by kernel_rfl, by decide⟩ (p252 go X)) fun _ => okF_prim rfl ⟨_, Tryz.func205, by kernel_rfl, by decide⟩ (p263 go X)) fun _ => okF_ite (fun _ => okF_ite (fun _ => okF_ite (fun _ => okF_leaf rfl (c325 go)) fun _ => okF_ite (fun _ => okF_leaf rfl (c332 go)) fun _ => okF_leaf rfl (c334 go)) fun _ => okF_ite (fun _ => okF_ite (fun _ => okF_leaf rfl (c337 go)) fun _ => okF_leaf rfl (c339 go)) fun _ => okF_ite (fun _ => okF_leaf rfl (c340 go)) fun _ => okF_prim rfl ⟨_, Tryz.func184, by kernel_rfl, by decide⟩ (p345 go X)) fun _ => okF_ite (fun _ => okF_ite (fun _ => okF_ite (fun _ => okF_leaf rfl (c346 go)) fun _ => okF_leaf rfl (c347 go)) fun _ => okF_ite (fun _ => okF_leaf rfl (c405 go)) fun _ => okF_leaf rfl (c418 go)) fun _ => okF_ite (fun _ => okF_ite (fun _ => okF_leaf rfl (c435 go)) fun _ => okF_leaf rfl (c451 go)) fun _ => okF_ite (fun _ => okF_leaf rfl (c452 go)) fun _ => okF_leaf rfl (c453 go)) fun _ => okF_ite (fun _ => okF_ite (fun _ => okF_ite (fun _ => okF_ite (fun _ => okF_leaf rfl (c454 go)) fun _ => okF_ite (fun _ => okF_leaf rfl (c479 go)) fun _ => okF_leaf rfl (c506 go)) fun _ => okF_ite (fun _ => okF_ite (fun _ => okF_leaf rfl (c507 go)) fun _ => okF_leaf rfl (c508 go)) fun _ => okF_ite (fun _ => okF_leaf rfl (c509 go)) fun _ => okF_leaf rfl (c510 go)) fun _ => okF_ite (fun _ => okF_ite (fun _ => okF_leaf rfl (c511 go)) fun _ => okF_ite (fun _ => okF_leaf rfl (c512 go)) fun _ => okF_leaf rfl (c513 go)) fun _ => okF_ite (fun _ => okF_ite (fun _ => okF_leaf rfl (c514 go)) fun _ => okF_leaf rfl (c515 go)) fun _ => okF_ite (fun _ => okF_leaf rfl (c517 go)) fun _ => okF_leaf rfl (c518 go)) fun _ => okF_ite (fun _ => okF_ite (fun _ => okF_ite (fun _ => okF_leaf rfl (c519 go)) fun _ => okF_ite (fun _ => okF_leaf rfl (c520 go)) fun _ => okF_leaf rfl (c521 go)) fun _ => okF_ite (fun _ => okF_ite (fun _ => okF_leaf rfl (c522 go)) fun _ => okF_leaf rfl (c523 go)) fun _ => okF_ite (fun _ => okF_leaf rfl (c524 go)) fun _ => okF_leaf rfl (c525 go)) fun _ => okF_ite (fun _ => okF_ite (fun _ => okF_ite (fun _ => okF_leaf rfl (c526 go)) fun _ => okF_leaf rfl (c541 go)) fun _ => okF_ite (fun _ => okF_leaf rfl (c542 go)) fun _ => okF_leaf rfl (c543 go)) fun _ => okF_ite (fun _ => okF_ite (fun _ => okF_leaf rfl (c554 go)) fun _ => okF_leaf rfl (c555 go)) fun _ => okF_ite (fun _ => okF_leaf rfl (c556 go)) fun _ => okF_leaf rfl (c557 go)) fun _ => okF_ite (fun _ => okF_ite (fun _ => okF_ite (fun _ => okF_ite (fun _ => okF_ite (fun _ => okF_leaf rfl (c566 go)) fun _ => okF_ite (fun _ => okF_leaf rfl (c577 go)) fun _ => okF_leaf rfl (c579 go)) fun _ => okF_ite (fun _ => okF_ite (fun _ => okF_leaf rfl (c580 go)) fun _ => okF_leaf rfl (c581 go)) fun _ => okF_ite (fun _ => okF_leaf rfl (c582 go)) fun _ => okF_leaf rfl (c583 go)) fun _ => okF_ite (fun _ => okF_ite (fun _ => okF_leaf rfl (c585 go)) fun _ => okF_ite (fun _ => okF_leaf rfl (c586 go)) fun _ => okF_leaf rfl (c587 go)) fun _ => okF_ite (fun _ => okF_ite (fun _ => okF_leaf rfl (c588 go)) fun _ => okF_leaf rfl (c589 go)) fun _ => okF_ite (fun _ => okF_leaf rfl (c590 go)) fun _ => okF_leaf rfl (c591 go)) fun _ => okF_ite (fun _ => okF_ite (fun _ => okF_ite (fun _ => okF_leaf rfl (c592 go)) fun _ => okF_ite (fun _ => okF_leaf rfl (c593 go)) fun _ => okF_leaf rfl (c594 go)) fun _ => okF_ite (fun _ => okF_ite (fun _ => okF_leaf rfl (c595 go)) fun _ => okF_leaf rfl (c596 go)) fun _ => okF_ite (fun _ => okF_leaf rfl (c597 go)) fun _ => okF_leaf rfl (c623 go)) fun _ => okF_ite (fun _ => okF_ite (fun _ => okF_ite (fun _ => okF_leaf rfl (c624 go)) fun _ => okF_leaf rfl (c625 go)) fun _ => okF_ite (fun _ => okF_leaf rfl (c626 go)) fun _ => okF_leaf rfl (c627 go)) fun _ => okF_ite (fun _ => okF_ite (fun _ => okF_leaf rfl (c628 go)) fun _ => okF_leaf rfl (c629 go)) fun _ => okF_ite (fun _ => okF_leaf rfl (c630 go)) fun _ => okF_leaf rfl (c631 go)) fun _ => okF_ite (fun _ => okF_ite (fun _ => okF_ite (fun _ => okF_ite (fun _ => okF_leaf rfl (c646 go)) fun _ => okF_ite (fun _ => okF_leaf rfl (c647 go)) fun _ => okF_leaf rfl (c648 go)) fun _ => okF_ite (fun _ => okF_ite (fun _ => okF_leaf rfl (c653 go)) fun _ => okF_leaf rfl (c654 go)) fun _ => okF_ite (fun _ => okF_leaf rfl (c655 go)) fun _ => okF_leaf rfl (c657 go)) fun _ => okF_ite (fun _ => okF_ite (fun _ => okF_ite (fun _ => okF_leaf rfl (c658 go)) fun _ => okF_leaf rfl (c659 go)) fun _ => okF_ite (fun _ => okF_leaf rfl (c660 go)) fun _ => okF_leaf rfl (c666 go)) fun _ => okF_ite (fun _ => okF_ite (fun _ => okF_leaf rfl (c667 go)) fun _ => okF_leaf rfl (c668 go)) fun _ => okF_ite (fun _ => okF_leaf rfl (c669 go)) fun _ => okF_leaf rfl (c670 go)) fun _ => okF_ite (fun _ => okF_ite (fun _ => okF_ite (fun _ => okF_leaf rfl (c671 go)) fun _ => okF_ite (fun _ => okF_leaf rfl (c672 go)) fun _ => okF_leaf rfl (c673 go)) fun _ => okF_ite (fun _ => okF_ite (fun _ => okF_leaf rfl (c674 go)) fun _ => okF_leaf rfl (c675 go)) fun _ => okF_ite (fun _ => okF_leaf rfl (c676 go)) fun _ => okF_leaf rfl (c677 go)) fun _ => okF_ite (fun _ => okF_ite (fun _ => okF_ite (fun _ => okF_leaf rfl (c678 go)) fun _ => okF_leaf rfl (c679 go)) fun _ => okF_ite (fun _ => okF_leaf rfl (c680 go)) fun _ => okF_leaf rfl (c681 go)) fun _ => okF_ite (fun _ => okF_ite (fun _ => okF_leaf rfl (c682 go)) fun _ => okF_leaf rfl (c683 go)) fun _ => okF_ite (fun _ => okF_leaf rfl (c684 go)) fun _ => okF_leaf rfl (c685 go)
theorem ta0 (w : World) : (Instr.typeAssert .nilIface 20 138 true).run Tryz.prog w = .ok (.tuple #[.agg #[.int .i64 0], .bool false]) w := by
  simp [Instr.typeAssert, go_sem]
theorem ta1 (v : Value) (w : World) : (Instr.typeAssert (.iface 138 v) 20 138 true).run Tryz.prog w = .ok (.tuple #[v, .bool true]) w := by
  simp [Instr.typeAssert, go_sem]
theorem idleR (v0 : Value) (w : World) :
    CallsD Tryz.prog 97 #[v0] .returning w fun e u' w' => e = .returned (.tuple #[]) ∧ u' = .returning ∧ ∃ os, w' = more w os := by
  refine callsD_of_wpS Tryz.func97 rfl fun c₀ cs hu => ?_
  apply wpS_seq
  apply wpS_region
  simp [wpOpsS, go_sem, recoverD, hu, Tryz.ntmps97, Exit.thenS, ta0]
  apply wpS_seq
  apply wpS_region
  simp [wpOpsS, go_sem, Exit.thenS]
  refine wpS_cond (t := false) (by simp [Act.eval, Array.replicate]) ?_
  simp only [Bool.false_eq_true, if_false]
  refine wpS_of_wp (wp_skip ?_)
  cases c₀
  simp_all [bodyPostS, results, Tryz.results97, alloc_more]
  exact ⟨_, rfl⟩
theorem panR (p : Addr) (x : Int) (w : World) (hc : (w.cell? p).isSome = true) (hz : w.frozen? p = false) :
    CallsD Tryz.prog 97 #[.pointer (some p)] (.panicking [{ v := .iface 138 (.agg #[.int .i64 x]), recovered := false }]) w fun e u' w' =>
      e = .returned (.tuple #[]) ∧ u' = .panicking [{ v := .iface 138 (.agg #[.int .i64 x]), recovered := true }] ∧ ∃ os, w' = more (w.setCell p (.int .i64 x)) os := by
  obtain ⟨u, hu0⟩ := Option.isSome_iff_exists.1 hc
  have h1 : ∀ o, (w.alloc o).cell? p = some u := fun o => by rw [alloc_more, cell_more hc, hu0]
  have h2 : ∀ o, (w.alloc o).frozen? p = false := fun o => by rw [alloc_more, frozen_more hc, hz]
  have h3 : ∀ o v, (w.alloc o).setCell p v = more (w.setCell p v) #[o] := fun o v => by rw [alloc_more, set_more (lt_cell hc)]
  refine callsD_of_wpS Tryz.func97 rfl fun c₀ cs hu => ?_
  apply wpS_seq
  apply wpS_region
  simp [wpOpsS, go_sem, recoverD, hu, Tryz.ntmps97, Exit.thenS, ta1]
  apply wpS_seq
  apply wpS_region
  simp [wpOpsS, go_sem, Exit.thenS]
  refine wpS_cond (t := true) (by simp [Act.eval, Array.replicate]) ?_
  simp only [if_true]
  apply wpS_region
  simp [wpOpsS, go_sem, h1, h2, bodyPostS, results, Tryz.results97, h3]
  exact ⟨_, rfl⟩
theorem dsemR (C : Ctx) (cs : Array Value) (fn : Func) (hcs : cs.size = 1) (ht : C.tnum = id) (h1 : C.dfr = [{ target := .fn (.func 97) cs, args := #[] }]) (h2 : C.dval = .func (.func 97) #[] cs) : DSem Tryz.prog C fn spRead := by
  obtain ⟨v0, rfl⟩ : ∃ v, cs = #[v] := by
    rcases cs with ⟨l⟩
    match l, hcs with
    | [v], _ => exact ⟨v, rfl⟩
  refine dsem_of h1 h2 (fun w => by simp [invoke, go_sem]) (idleR v0) ?_
  intro E v a css e2 hv hs
  unfold spRead at hs
  split at hs
  case h_2 => cases hs
  rename_i t e
  split at hs
  case isFalse => cases hs
  rename_i htt
  subst htt
  obtain rfl := Option.some.inj hs
  rw [ht] at e2
  cases hv with
  | ifc _ u _ hu =>
  obtain ⟨us, rfl, u1, u2, u3⟩ := hu.agg_inv
  have u4 := (u3 0 (by simp)).int_inv
  obtain rfl : us = #[.int .i64 e] := by
    rcases us with ⟨l⟩
    match l, u1 with
    | [y], _ => simp at u4; rw [u4]
  refine ⟨[[.int .i64 e]], ⟨rfl, fun j hj => ?_, trivial⟩, fun w ps hps hw => ?_⟩
  · obtain rfl : j = 0 := by simpa using hj
    exact ⟨rfl, .int _ _⟩
  · obtain ⟨⟨b, o, sp⟩, rfl⟩ : ∃ p, ps = [p] := by
      match ps, hps with
      | [p], _ => exact ⟨p, rfl⟩
    obtain ⟨w1, w2, _⟩ := hw
    dsimp only at w1 w2
    subst w1
    obtain ⟨q1, q2⟩ := w2 0 (by simp)
    have hv0 : v0 = .pointer (some ⟨b, o, none⟩) := by simpa using hps
    subst hv0
    rw [e2]
    exact panR ⟨b, o, none⟩ e w q1 q2
theorem g466R (go : Nat → Option Obj) : compGuardF Tryz.prog (N go) Tryz.f53 = some g466 := by kernel_rfl
theorem p466 (go : Nat → Option Obj) (X : Facts go) : ∀ args bs t, pRead args bs = some t → FSem Tryz.prog (N go) 466 args bs t :=
  pGuard_fsem (gok0 go X) mixed (fn := Tryz.f53) Tryz.func53 (g466R go) rfl fun C cs h0 _ h2 h3 h4 => dsemR C cs _ h0 h2 h3 h4
theorem gok (go : Nat → Option Obj) (X : Facts go) : GOk Tryz.prog (N go) G := gok_of fun f => okF_ite (fun e => by
  obtain rfl := Nat.eq_of_beq_eq_true e
  exact ⟨⟨_, Tryz.func53, by kernel_rfl, by decide⟩, p466 go X⟩) fun _ => gok0 go X f
theorem laid : laidOutB Tryz.prog = true := by kernel_rfl
theorem own : ownKnob Tryz.prog.godebug = none := by kernel_rfl
theorem one_le (l : Lit) (H : Type) : 1 ≤ Rows.uptoBulk (DataW.lit (H := H) l) := by cases l <;> simp [Rows.uptoBulk]
def B : Bulk where
  f := Rows.uptoBulk
  g := Rows.uptoBulkAll
  str _ := by simp [Rows.uptoBulk]
  lit l := one_le l _
  nil := by simp [Rows.uptoBulk]
  slice _ _ := by simp [Rows.uptoBulk]
  agg _ := by simp [Rows.uptoBulk]
  none := by simp [Rows.uptoBulkAll]
  cons _ _ := by simp [Rows.uptoBulkAll]
/-- The variables, as the world holds them. -/
def goW (W : World) (g : Nat) : Option Obj := W.heap[g]?
end Go.Proofs.YtomphmeopjpejaaGreatDoor.tie
