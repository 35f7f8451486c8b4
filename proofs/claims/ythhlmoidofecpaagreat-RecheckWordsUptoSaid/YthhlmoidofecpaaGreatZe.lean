/- Trees of functions. Conditions: none. -/
import Derived.Test.YthhlmoidofecpaaGreatZa
set_option linter.unusedVariables false
set_option linter.unusedSimpArgs false
namespace Go.Proofs.YthhlmoidofecpaaGreat
open Go Go.Am Go.Proofs
def qQX:Nat->Pat
 | _=>⟨[],[],[],[]⟩
def qIz:Tree :=
 gW 7 0 <|
 gW 7 1 <|
 qD 5 2 <|
 qD 1 3 <|
 xC 4 5 <|
 .bind (.elem 4 true 4 0) [.v 4,.v 5] <|
 gW 4 7 <|
 qD 2 3 <|
 vT 20 [.v 2,.v 9] 0 <|
 qAX 0 10 <|
 qAX 1 10 <|
 gW 7 11 <|
 qD 1 8 <|
 qF .eql 22 0 14 <|
 qB 15 (
  qD 2 3 <|
  qF .neq 26 0 16 <|
  qB 17 (
   qG 13) (
   qD 1 8 <|
   qF .neq 31 0 18 <|
   qB 19 (
    .bind (.un .not 4) [.v 12] <|
    qB 20 (
     qG 13) (
     qD 1 13 <|
     qD 3 8 <|
     vB .neq 38 40 21 22 <|
     qB 23 (
      qG 13) (
      qD 1 8 <|
      vT 63 [.v 24] 1 <|
      .bind (.un .not 4) [.v 25] <|
      qB 26 (
       .bind (.fld true 2 3) [.v 3] <|
       .bind (.bin .neq 60 (.tmp 51) (.tmp 52)) [.v 27,.agg [k' 0,k' 0]] <|
       qB 28 (
        qG 12) (
        qD 1 8 <|
        vT 63 [.v 29] 1 <|
        qB 30 (
         .bind (.fld true 2 3) [.v 3] <|
         vT 118 [.v 31] 1 <|
         .bind (.un .not 4) [.v 32] <|
         qB 33 (
          qG 12) (
          qD 1 8 <|
          qF .eql 67 0 34 <|
          qB 35 (
           qD 4 3 <|
           qD 2 2 <|
           vB .gtr 72 75 36 37 <|
           qB 38 (
            qG 12) (
            qD 1 8 <|
            vT 63 [.v 39] 1 <|
            qB 40 (
             qD 1 8 <|
             qF .neq 83 0 41 <|
             qB 42 (
              qD 3 3 <|
              qD 3 13 <|
              vB .lss 89 92 43 44 <|
              qB 45 (
               qG 12) (
               qD 4 3 <|
               qD 4 13 <|
               vB .gtr 97 100 46 47 <|
               qB 48 (
                qG 12) (
                qD 5 3 <|
                qF .lss 105 0 49 <|
                qB 50 (
                 qG 1) (
                 qD 5 3 <|
                 qF .neq 109 0 51 <|
                 qB 52 (
                  qD 1 8 <|
                  qF .neq 113 3 53 <|
                  qB 54 (
                   qG 1) (
                   qG 0)) (
                  qG 0))))) (
              qD 5 3 <|
              qF .lss 105 0 43 <|
              qB 44 (
               qG 1) (
               qD 5 3 <|
               qF .neq 109 0 45 <|
               qB 46 (
                qD 1 8 <|
                qF .neq 113 3 47 <|
                qB 48 (
                 qG 1) (
                 qG 0)) (
                qG 0)))) (
             qD 5 3 <|
             qF .lss 105 0 41 <|
             qB 42 (
              qG 1) (
              qD 5 3 <|
              qF .neq 109 0 43 <|
              qB 44 (
               qD 1 8 <|
               qF .neq 113 3 45 <|
               qB 46 (
                qG 1) (
                qG 0)) (
               qG 0))))) (
           qD 1 8 <|
           vT 63 [.v 36] 1 <|
           qB 37 (
            qD 1 8 <|
            qF .neq 83 0 38 <|
            qB 39 (
             qD 3 3 <|
             qD 3 13 <|
             vB .lss 89 92 40 41 <|
             qB 42 (
              qG 12) (
              qD 4 3 <|
              qD 4 13 <|
              vB .gtr 97 100 43 44 <|
              qB 45 (
               qG 12) (
               qD 5 3 <|
               qF .lss 105 0 46 <|
               qB 47 (
                qG 1) (
                qD 5 3 <|
                qF .neq 109 0 48 <|
                qB 49 (
                 qD 1 8 <|
                 qF .neq 113 3 50 <|
                 qB 51 (
                  qG 1) (
                  qG 0)) (
                 qG 0))))) (
             qD 5 3 <|
             qF .lss 105 0 40 <|
             qB 41 (
              qG 1) (
              qD 5 3 <|
              qF .neq 109 0 42 <|
              qB 43 (
               qD 1 8 <|
               qF .neq 113 3 44 <|
               qB 45 (
                qG 1) (
                qG 0)) (
               qG 0)))) (
            qD 5 3 <|
            qF .lss 105 0 38 <|
            qB 39 (
             qG 1) (
             qD 5 3 <|
             qF .neq 109 0 40 <|
             qB 41 (
              qD 1 8 <|
              qF .neq 113 3 42 <|
              qB 43 (
               qG 1) (
               qG 0)) (
              qG 0)))))) (
         qD 1 8 <|
         qF .eql 67 0 31 <|
         qB 32 (
          qD 4 3 <|
          qD 2 2 <|
          vB .gtr 72 75 33 34 <|
          qB 35 (
           qG 12) (
           qD 1 8 <|
           vT 63 [.v 36] 1 <|
           qB 37 (
            qD 1 8 <|
            qF .neq 83 0 38 <|
            qB 39 (
             qD 3 3 <|
             qD 3 13 <|
             vB .lss 89 92 40 41 <|
             qB 42 (
              qG 12) (
              qD 4 3 <|
              qD 4 13 <|
              vB .gtr 97 100 43 44 <|
              qB 45 (
               qG 12) (
               qD 5 3 <|
               qF .lss 105 0 46 <|
               qB 47 (
                qG 1) (
                qD 5 3 <|
                qF .neq 109 0 48 <|
                qB 49 (
                 qD 1 8 <|
                 qF .neq 113 3 50 <|
                 qB 51 (
                  qG 1) (
                  qG 0)) (
                 qG 0))))) (
             qD 5 3 <|
             qF .lss 105 0 40 <|
             qB 41 (
              qG 1) (
              qD 5 3 <|
              qF .neq 109 0 42 <|
              qB 43 (
               qD 1 8 <|
               qF .neq 113 3 44 <|
               qB 45 (
                qG 1) (
                qG 0)) (
               qG 0)))) (
            qD 5 3 <|
            qF .lss 105 0 38 <|
            qB 39 (
             qG 1) (
             qD 5 3 <|
             qF .neq 109 0 40 <|
             qB 41 (
              qD 1 8 <|
              qF .neq 113 3 42 <|
              qB 43 (
               qG 1) (
               qG 0)) (
              qG 0))))) (
          qD 1 8 <|
          vT 63 [.v 33] 1 <|
          qB 34 (
           qD 1 8 <|
           qF .neq 83 0 35 <|
           qB 36 (
            qD 3 3 <|
            qD 3 13 <|
            vB .lss 89 92 37 38 <|
            qB 39 (
             qG 12) (
             qD 4 3 <|
             qD 4 13 <|
             vB .gtr 97 100 40 41 <|
             qB 42 (
              qG 12) (
              qD 5 3 <|
              qF .lss 105 0 43 <|
              qB 44 (
               qG 1) (
               qD 5 3 <|
               qF .neq 109 0 45 <|
               qB 46 (
                qD 1 8 <|
                qF .neq 113 3 47 <|
                qB 48 (
                 qG 1) (
                 qG 0)) (
                qG 0))))) (
            qD 5 3 <|
            qF .lss 105 0 37 <|
            qB 38 (
             qG 1) (
             qD 5 3 <|
             qF .neq 109 0 39 <|
             qB 40 (
              qD 1 8 <|
              qF .neq 113 3 41 <|
              qB 42 (
               qG 1) (
               qG 0)) (
              qG 0)))) (
           qD 5 3 <|
           qF .lss 105 0 35 <|
           qB 36 (
            qG 1) (
            qD 5 3 <|
            qF .neq 109 0 37 <|
            qB 38 (
             qD 1 8 <|
             qF .neq 113 3 39 <|
             qB 40 (
              qG 1) (
              qG 0)) (
             qG 0))))))) (
       qD 1 8 <|
       vT 63 [.v 27] 1 <|
       qB 28 (
        .bind (.fld true 2 3) [.v 3] <|
        vT 118 [.v 29] 1 <|
        .bind (.un .not 4) [.v 30] <|
        qB 31 (
         qG 12) (
         qD 1 8 <|
         qF .eql 67 0 32 <|
         qB 33 (
          qD 4 3 <|
          qD 2 2 <|
          vB .gtr 72 75 34 35 <|
          qB 36 (
           qG 12) (
           qD 1 8 <|
           vT 63 [.v 37] 1 <|
           qB 38 (
            qD 1 8 <|
            qF .neq 83 0 39 <|
            qB 40 (
             qD 3 3 <|
             qD 3 13 <|
             vB .lss 89 92 41 42 <|
             qB 43 (
              qG 12) (
              qD 4 3 <|
              qD 4 13 <|
              vB .gtr 97 100 44 45 <|
              qB 46 (
               qG 12) (
               qD 5 3 <|
               qF .lss 105 0 47 <|
               qB 48 (
                qG 1) (
                qD 5 3 <|
                qF .neq 109 0 49 <|
                qB 50 (
                 qD 1 8 <|
                 qF .neq 113 3 51 <|
                 qB 52 (
                  qG 1) (
                  qG 0)) (
                 qG 0))))) (
             qD 5 3 <|
             qF .lss 105 0 41 <|
             qB 42 (
              qG 1) (
              qD 5 3 <|
              qF .neq 109 0 43 <|
              qB 44 (
               qD 1 8 <|
               qF .neq 113 3 45 <|
               qB 46 (
                qG 1) (
                qG 0)) (
               qG 0)))) (
            qD 5 3 <|
            qF .lss 105 0 39 <|
            qB 40 (
             qG 1) (
             qD 5 3 <|
             qF .neq 109 0 41 <|
             qB 42 (
              qD 1 8 <|
              qF .neq 113 3 43 <|
              qB 44 (
               qG 1) (
               qG 0)) (
              qG 0))))) (
          qD 1 8 <|
          vT 63 [.v 34] 1 <|
          qB 35 (
           qD 1 8 <|
           qF .neq 83 0 36 <|
           qB 37 (
            qD 3 3 <|
            qD 3 13 <|
            vB .lss 89 92 38 39 <|
            qB 40 (
             qG 12) (
             qD 4 3 <|
             qD 4 13 <|
             vB .gtr 97 100 41 42 <|
             qB 43 (
              qG 12) (
              qD 5 3 <|
              qF .lss 105 0 44 <|
              qB 45 (
               qG 1) (
               qD 5 3 <|
               qF .neq 109 0 46 <|
               qB 47 (
                qD 1 8 <|
                qF .neq 113 3 48 <|
                qB 49 (
                 qG 1) (
                 qG 0)) (
                qG 0))))) (
            qD 5 3 <|
            qF .lss 105 0 38 <|
            qB 39 (
             qG 1) (
             qD 5 3 <|
             qF .neq 109 0 40 <|
             qB 41 (
              qD 1 8 <|
              qF .neq 113 3 42 <|
              qB 43 (
               qG 1) (
               qG 0)) (
              qG 0)))) (
           qD 5 3 <|
           qF .lss 105 0 36 <|
           qB 37 (
            qG 1) (
            qD 5 3 <|
            qF .neq 109 0 38 <|
            qB 39 (
             qD 1 8 <|
             qF .neq 113 3 40 <|
             qB 41 (
              qG 1) (
              qG 0)) (
             qG 0)))))) (
        qD 1 8 <|
        qF .eql 67 0 29 <|
        qB 30 (
         qD 4 3 <|
         qD 2 2 <|
         vB .gtr 72 75 31 32 <|
         qB 33 (
          qG 12) (
          qD 1 8 <|
          vT 63 [.v 34] 1 <|
          qB 35 (
           qD 1 8 <|
           qF .neq 83 0 36 <|
           qB 37 (
            qD 3 3 <|
            qD 3 13 <|
            vB .lss 89 92 38 39 <|
            qB 40 (
             qG 12) (
             qD 4 3 <|
             qD 4 13 <|
             vB .gtr 97 100 41 42 <|
             qB 43 (
              qG 12) (
              qD 5 3 <|
              qF .lss 105 0 44 <|
              qB 45 (
               qG 1) (
               qD 5 3 <|
               qF .neq 109 0 46 <|
               qB 47 (
                qD 1 8 <|
                qF .neq 113 3 48 <|
                qB 49 (
                 qG 1) (
                 qG 0)) (
                qG 0))))) (
            qD 5 3 <|
            qF .lss 105 0 38 <|
            qB 39 (
             qG 1) (
             qD 5 3 <|
             qF .neq 109 0 40 <|
             qB 41 (
              qD 1 8 <|
              qF .neq 113 3 42 <|
              qB 43 (
               qG 1) (
               qG 0)) (
              qG 0)))) (
           qD 5 3 <|
           qF .lss 105 0 36 <|
           qB 37 (
            qG 1) (
            qD 5 3 <|
            qF .neq 109 0 38 <|
            qB 39 (
             qD 1 8 <|
             qF .neq 113 3 40 <|
             qB 41 (
              qG 1) (
              qG 0)) (
             qG 0))))) (
         qD 1 8 <|
         vT 63 [.v 31] 1 <|
         qB 32 (
          qD 1 8 <|
          qF .neq 83 0 33 <|
          qB 34 (
           qD 3 3 <|
           qD 3 13 <|
           vB .lss 89 92 35 36 <|
           qB 37 (
            qG 12) (
            qD 4 3 <|
            qD 4 13 <|
            vB .gtr 97 100 38 39 <|
            qB 40 (
             qG 12) (
             qD 5 3 <|
             qF .lss 105 0 41 <|
             qB 42 (
              qG 1) (
              qD 5 3 <|
              qF .neq 109 0 43 <|
              qB 44 (
               qD 1 8 <|
               qF .neq 113 3 45 <|
               qB 46 (
                qG 1) (
                qG 0)) (
               qG 0))))) (
           qD 5 3 <|
           qF .lss 105 0 35 <|
           qB 36 (
            qG 1) (
            qD 5 3 <|
            qF .neq 109 0 37 <|
            qB 38 (
             qD 1 8 <|
             qF .neq 113 3 39 <|
             qB 40 (
              qG 1) (
              qG 0)) (
             qG 0)))) (
          qD 5 3 <|
          qF .lss 105 0 33 <|
          qB 34 (
           qG 1) (
           qD 5 3 <|
           qF .neq 109 0 35 <|
           qB 36 (
            qD 1 8 <|
            qF .neq 113 3 37 <|
            qB 38 (
             qG 1) (
             qG 0)) (
            qG 0))))))))) (
    qD 1 8 <|
    vT 63 [.v 20] 1 <|
    .bind (.un .not 4) [.v 21] <|
    qB 22 (
     .bind (.fld true 2 3) [.v 3] <|
     .bind (.bin .neq 60 (.tmp 51) (.tmp 52)) [.v 23,.agg [k' 0,k' 0]] <|
     qB 24 (
      qG 12) (
      qD 1 8 <|
      vT 63 [.v 25] 1 <|
      qB 26 (
       .bind (.fld true 2 3) [.v 3] <|
       vT 118 [.v 27] 1 <|
       .bind (.un .not 4) [.v 28] <|
       qB 29 (
        qG 12) (
        qD 1 8 <|
        qF .eql 67 0 30 <|
        qB 31 (
         qD 4 3 <|
         qD 2 2 <|
         vB .gtr 72 75 32 33 <|
         qB 34 (
          qG 12) (
          qD 1 8 <|
          vT 63 [.v 35] 1 <|
          qB 36 (
           qD 1 8 <|
           qF .neq 83 0 37 <|
           qB 38 (
            qD 3 3 <|
            qD 3 13 <|
            vB .lss 89 92 39 40 <|
            qB 41 (
             qG 12) (
             qD 4 3 <|
             qD 4 13 <|
             vB .gtr 97 100 42 43 <|
             qB 44 (
              qG 12) (
              qD 5 3 <|
              qF .lss 105 0 45 <|
              qB 46 (
               qG 1) (
               qD 5 3 <|
               qF .neq 109 0 47 <|
               qB 48 (
                qD 1 8 <|
                qF .neq 113 3 49 <|
                qB 50 (
                 qG 1) (
                 qG 0)) (
                qG 0))))) (
            qD 5 3 <|
            qF .lss 105 0 39 <|
            qB 40 (
             qG 1) (
             qD 5 3 <|
             qF .neq 109 0 41 <|
             qB 42 (
              qD 1 8 <|
              qF .neq 113 3 43 <|
              qB 44 (
               qG 1) (
               qG 0)) (
              qG 0)))) (
           qD 5 3 <|
           qF .lss 105 0 37 <|
           qB 38 (
            qG 1) (
            qD 5 3 <|
            qF .neq 109 0 39 <|
            qB 40 (
             qD 1 8 <|
             qF .neq 113 3 41 <|
             qB 42 (
              qG 1) (
              qG 0)) (
             qG 0))))) (
         qD 1 8 <|
         vT 63 [.v 32] 1 <|
         qB 33 (
          qD 1 8 <|
          qF .neq 83 0 34 <|
          qB 35 (
           qD 3 3 <|
           qD 3 13 <|
           vB .lss 89 92 36 37 <|
           qB 38 (
            qG 12) (
            qD 4 3 <|
            qD 4 13 <|
            vB .gtr 97 100 39 40 <|
            qB 41 (
             qG 12) (
             qD 5 3 <|
             qF .lss 105 0 42 <|
             qB 43 (
              qG 1) (
              qD 5 3 <|
              qF .neq 109 0 44 <|
              qB 45 (
               qD 1 8 <|
               qF .neq 113 3 46 <|
               qB 47 (
                qG 1) (
                qG 0)) (
               qG 0))))) (
           qD 5 3 <|
           qF .lss 105 0 36 <|
           qB 37 (
            qG 1) (
            qD 5 3 <|
            qF .neq 109 0 38 <|
            qB 39 (
             qD 1 8 <|
             qF .neq 113 3 40 <|
             qB 41 (
              qG 1) (
              qG 0)) (
             qG 0)))) (
          qD 5 3 <|
          qF .lss 105 0 34 <|
          qB 35 (
           qG 1) (
           qD 5 3 <|
           qF .neq 109 0 36 <|
           qB 37 (
            qD 1 8 <|
            qF .neq 113 3 38 <|
            qB 39 (
             qG 1) (
             qG 0)) (
            qG 0)))))) (
       qD 1 8 <|
       qF .eql 67 0 27 <|
       qB 28 (
        qD 4 3 <|
        qD 2 2 <|
        vB .gtr 72 75 29 30 <|
        qB 31 (
         qG 12) (
         qD 1 8 <|
         vT 63 [.v 32] 1 <|
         qB 33 (
          qD 1 8 <|
          qF .neq 83 0 34 <|
          qB 35 (
           qD 3 3 <|
           qD 3 13 <|
           vB .lss 89 92 36 37 <|
           qB 38 (
            qG 12) (
            qD 4 3 <|
            qD 4 13 <|
            vB .gtr 97 100 39 40 <|
            qB 41 (
             qG 12) (
             qD 5 3 <|
             qF .lss 105 0 42 <|
             qB 43 (
              qG 1) (
              qD 5 3 <|
              qF .neq 109 0 44 <|
              qB 45 (
               qD 1 8 <|
               qF .neq 113 3 46 <|
               qB 47 (
                qG 1) (
                qG 0)) (
               qG 0))))) (
           qD 5 3 <|
           qF .lss 105 0 36 <|
           qB 37 (
            qG 1) (
            qD 5 3 <|
            qF .neq 109 0 38 <|
            qB 39 (
             qD 1 8 <|
             qF .neq 113 3 40 <|
             qB 41 (
              qG 1) (
              qG 0)) (
             qG 0)))) (
          qD 5 3 <|
          qF .lss 105 0 34 <|
          qB 35 (
           qG 1) (
           qD 5 3 <|
           qF .neq 109 0 36 <|
           qB 37 (
            qD 1 8 <|
            qF .neq 113 3 38 <|
            qB 39 (
             qG 1) (
             qG 0)) (
            qG 0))))) (
        qD 1 8 <|
        vT 63 [.v 29] 1 <|
        qB 30 (
         qD 1 8 <|
         qF .neq 83 0 31 <|
         qB 32 (
          qD 3 3 <|
          qD 3 13 <|
          vB .lss 89 92 33 34 <|
          qB 35 (
           qG 12) (
           qD 4 3 <|
           qD 4 13 <|
           vB .gtr 97 100 36 37 <|
           qB 38 (
            qG 12) (
            qD 5 3 <|
            qF .lss 105 0 39 <|
            qB 40 (
             qG 1) (
             qD 5 3 <|
             qF .neq 109 0 41 <|
             qB 42 (
              qD 1 8 <|
              qF .neq 113 3 43 <|
              qB 44 (
               qG 1) (
               qG 0)) (
              qG 0))))) (
          qD 5 3 <|
          qF .lss 105 0 33 <|
          qB 34 (
           qG 1) (
           qD 5 3 <|
           qF .neq 109 0 35 <|
           qB 36 (
            qD 1 8 <|
            qF .neq 113 3 37 <|
            qB 38 (
             qG 1) (
             qG 0)) (
            qG 0)))) (
         qD 5 3 <|
         qF .lss 105 0 31 <|
         qB 32 (
          qG 1) (
          qD 5 3 <|
          qF .neq 109 0 33 <|
          qB 34 (
           qD 1 8 <|
           qF .neq 113 3 35 <|
           qB 36 (
            qG 1) (
            qG 0)) (
           qG 0))))))) (
     qD 1 8 <|
     vT 63 [.v 23] 1 <|
     qB 24 (
      .bind (.fld true 2 3) [.v 3] <|
      vT 118 [.v 25] 1 <|
      .bind (.un .not 4) [.v 26] <|
      qB 27 (
       qG 12) (
       qD 1 8 <|
       qF .eql 67 0 28 <|
       qB 29 (
        qD 4 3 <|
        qD 2 2 <|
        vB .gtr 72 75 30 31 <|
        qB 32 (
         qG 12) (
         qD 1 8 <|
         vT 63 [.v 33] 1 <|
         qB 34 (
          qD 1 8 <|
          qF .neq 83 0 35 <|
          qB 36 (
           qD 3 3 <|
           qD 3 13 <|
           vB .lss 89 92 37 38 <|
           qB 39 (
            qG 12) (
            qD 4 3 <|
            qD 4 13 <|
            vB .gtr 97 100 40 41 <|
            qB 42 (
             qG 12) (
             qD 5 3 <|
             qF .lss 105 0 43 <|
             qB 44 (
              qG 1) (
              qD 5 3 <|
              qF .neq 109 0 45 <|
              qB 46 (
               qD 1 8 <|
               qF .neq 113 3 47 <|
               qB 48 (
                qG 1) (
                qG 0)) (
               qG 0))))) (
           qD 5 3 <|
           qF .lss 105 0 37 <|
           qB 38 (
            qG 1) (
            qD 5 3 <|
            qF .neq 109 0 39 <|
            qB 40 (
             qD 1 8 <|
             qF .neq 113 3 41 <|
             qB 42 (
              qG 1) (
              qG 0)) (
             qG 0)))) (
          qD 5 3 <|
          qF .lss 105 0 35 <|
          qB 36 (
           qG 1) (
           qD 5 3 <|
           qF .neq 109 0 37 <|
           qB 38 (
            qD 1 8 <|
            qF .neq 113 3 39 <|
            qB 40 (
             qG 1) (
             qG 0)) (
            qG 0))))) (
        qD 1 8 <|
        vT 63 [.v 30] 1 <|
        qB 31 (
         qD 1 8 <|
         qF .neq 83 0 32 <|
         qB 33 (
          qD 3 3 <|
          qD 3 13 <|
          vB .lss 89 92 34 35 <|
          qB 36 (
           qG 12) (
           qD 4 3 <|
           qD 4 13 <|
           vB .gtr 97 100 37 38 <|
           qB 39 (
            qG 12) (
            qD 5 3 <|
            qF .lss 105 0 40 <|
            qB 41 (
             qG 1) (
             qD 5 3 <|
             qF .neq 109 0 42 <|
             qB 43 (
              qD 1 8 <|
              qF .neq 113 3 44 <|
              qB 45 (
               qG 1) (
               qG 0)) (
              qG 0))))) (
          qD 5 3 <|
          qF .lss 105 0 34 <|
          qB 35 (
           qG 1) (
           qD 5 3 <|
           qF .neq 109 0 36 <|
           qB 37 (
            qD 1 8 <|
            qF .neq 113 3 38 <|
            qB 39 (
             qG 1) (
             qG 0)) (
            qG 0)))) (
         qD 5 3 <|
         qF .lss 105 0 32 <|
         qB 33 (
          qG 1) (
          qD 5 3 <|
          qF .neq 109 0 34 <|
          qB 35 (
           qD 1 8 <|
           qF .neq 113 3 36 <|
           qB 37 (
            qG 1) (
            qG 0)) (
           qG 0)))))) (
      qD 1 8 <|
      qF .eql 67 0 25 <|
      qB 26 (
       qD 4 3 <|
       qD 2 2 <|
       vB .gtr 72 75 27 28 <|
       qB 29 (
        qG 12) (
        qD 1 8 <|
        vT 63 [.v 30] 1 <|
        qB 31 (
         qD 1 8 <|
         qF .neq 83 0 32 <|
         qB 33 (
          qD 3 3 <|
          qD 3 13 <|
          vB .lss 89 92 34 35 <|
          qB 36 (
           qG 12) (
           qD 4 3 <|
           qD 4 13 <|
           vB .gtr 97 100 37 38 <|
           qB 39 (
            qG 12) (
            qD 5 3 <|
            qF .lss 105 0 40 <|
            qB 41 (
             qG 1) (
             qD 5 3 <|
             qF .neq 109 0 42 <|
             qB 43 (
              qD 1 8 <|
              qF .neq 113 3 44 <|
              qB 45 (
               qG 1) (
               qG 0)) (
              qG 0))))) (
          qD 5 3 <|
          qF .lss 105 0 34 <|
          qB 35 (
           qG 1) (
           qD 5 3 <|
           qF .neq 109 0 36 <|
           qB 37 (
            qD 1 8 <|
            qF .neq 113 3 38 <|
            qB 39 (
             qG 1) (
             qG 0)) (
            qG 0)))) (
         qD 5 3 <|
         qF .lss 105 0 32 <|
         qB 33 (
          qG 1) (
          qD 5 3 <|
          qF .neq 109 0 34 <|
          qB 35 (
           qD 1 8 <|
           qF .neq 113 3 36 <|
           qB 37 (
            qG 1) (
            qG 0)) (
           qG 0))))) (
       qD 1 8 <|
       vT 63 [.v 27] 1 <|
       qB 28 (
        qD 1 8 <|
        qF .neq 83 0 29 <|
        qB 30 (
         qD 3 3 <|
         qD 3 13 <|
         vB .lss 89 92 31 32 <|
         qB 33 (
          qG 12) (
          qD 4 3 <|
          qD 4 13 <|
          vB .gtr 97 100 34 35 <|
          qB 36 (
           qG 12) (
           qD 5 3 <|
           qF .lss 105 0 37 <|
           qB 38 (
            qG 1) (
            qD 5 3 <|
            qF .neq 109 0 39 <|
            qB 40 (
             qD 1 8 <|
             qF .neq 113 3 41 <|
             qB 42 (
              qG 1) (
              qG 0)) (
             qG 0))))) (
         qD 5 3 <|
         qF .lss 105 0 31 <|
         qB 32 (
          qG 1) (
          qD 5 3 <|
          qF .neq 109 0 33 <|
          qB 34 (
           qD 1 8 <|
           qF .neq 113 3 35 <|
           qB 36 (
            qG 1) (
            qG 0)) (
           qG 0)))) (
        qD 5 3 <|
        qF .lss 105 0 29 <|
        qB 30 (
         qG 1) (
         qD 5 3 <|
         qF .neq 109 0 31 <|
         qB 32 (
          qD 1 8 <|
          qF .neq 113 3 33 <|
          qB 34 (
           qG 1) (
           qG 0)) (
          qG 0))))))))) (
  qD 1 8 <|
  qF .neq 31 0 16 <|
  qB 17 (
   .bind (.un .not 4) [.v 12] <|
   qB 18 (
    qG 13) (
    qD 1 13 <|
    qD 3 8 <|
    vB .neq 38 40 19 20 <|
    qB 21 (
     qG 13) (
     qD 1 8 <|
     vT 63 [.v 22] 1 <|
     .bind (.un .not 4) [.v 23] <|
     qB 24 (
      .bind (.fld true 2 3) [.v 3] <|
      .bind (.bin .neq 60 (.tmp 51) (.tmp 52)) [.v 25,.agg [k' 0,k' 0]] <|
      qB 26 (
       qG 12) (
       qD 1 8 <|
       vT 63 [.v 27] 1 <|
       qB 28 (
        .bind (.fld true 2 3) [.v 3] <|
        vT 118 [.v 29] 1 <|
        .bind (.un .not 4) [.v 30] <|
        qB 31 (
         qG 12) (
         qD 1 8 <|
         qF .eql 67 0 32 <|
         qB 33 (
          qD 4 3 <|
          qD 2 2 <|
          vB .gtr 72 75 34 35 <|
          qB 36 (
           qG 12) (
           qD 1 8 <|
           vT 63 [.v 37] 1 <|
           qB 38 (
            qD 1 8 <|
            qF .neq 83 0 39 <|
            qB 40 (
             qD 3 3 <|
             qD 3 13 <|
             vB .lss 89 92 41 42 <|
             qB 43 (
              qG 12) (
              qD 4 3 <|
              qD 4 13 <|
              vB .gtr 97 100 44 45 <|
              qB 46 (
               qG 12) (
               qD 5 3 <|
               qF .lss 105 0 47 <|
               qB 48 (
                qG 1) (
                qD 5 3 <|
                qF .neq 109 0 49 <|
                qB 50 (
                 qD 1 8 <|
                 qF .neq 113 3 51 <|
                 qB 52 (
                  qG 1) (
                  qG 0)) (
                 qG 0))))) (
             qD 5 3 <|
             qF .lss 105 0 41 <|
             qB 42 (
              qG 1) (
              qD 5 3 <|
              qF .neq 109 0 43 <|
              qB 44 (
               qD 1 8 <|
               qF .neq 113 3 45 <|
               qB 46 (
                qG 1) (
                qG 0)) (
               qG 0)))) (
            qD 5 3 <|
            qF .lss 105 0 39 <|
            qB 40 (
             qG 1) (
             qD 5 3 <|
             qF .neq 109 0 41 <|
             qB 42 (
              qD 1 8 <|
              qF .neq 113 3 43 <|
              qB 44 (
               qG 1) (
               qG 0)) (
              qG 0))))) (
          qD 1 8 <|
          vT 63 [.v 34] 1 <|
          qB 35 (
           qD 1 8 <|
           qF .neq 83 0 36 <|
           qB 37 (
            qD 3 3 <|
            qD 3 13 <|
            vB .lss 89 92 38 39 <|
            qB 40 (
             qG 12) (
             qD 4 3 <|
             qD 4 13 <|
             vB .gtr 97 100 41 42 <|
             qB 43 (
              qG 12) (
              qD 5 3 <|
              qF .lss 105 0 44 <|
              qB 45 (
               qG 1) (
               qD 5 3 <|
               qF .neq 109 0 46 <|
               qB 47 (
                qD 1 8 <|
                qF .neq 113 3 48 <|
                qB 49 (
                 qG 1) (
                 qG 0)) (
                qG 0))))) (
            qD 5 3 <|
            qF .lss 105 0 38 <|
            qB 39 (
             qG 1) (
             qD 5 3 <|
             qF .neq 109 0 40 <|
             qB 41 (
              qD 1 8 <|
              qF .neq 113 3 42 <|
              qB 43 (
               qG 1) (
               qG 0)) (
              qG 0)))) (
           qD 5 3 <|
           qF .lss 105 0 36 <|
           qB 37 (
            qG 1) (
            qD 5 3 <|
            qF .neq 109 0 38 <|
            qB 39 (
             qD 1 8 <|
             qF .neq 113 3 40 <|
             qB 41 (
              qG 1) (
              qG 0)) (
             qG 0)))))) (
        qD 1 8 <|
        qF .eql 67 0 29 <|
        qB 30 (
         qD 4 3 <|
         qD 2 2 <|
         vB .gtr 72 75 31 32 <|
         qB 33 (
          qG 12) (
          qD 1 8 <|
          vT 63 [.v 34] 1 <|
          qB 35 (
           qD 1 8 <|
           qF .neq 83 0 36 <|
           qB 37 (
            qD 3 3 <|
            qD 3 13 <|
            vB .lss 89 92 38 39 <|
            qB 40 (
             qG 12) (
             qD 4 3 <|
             qD 4 13 <|
             vB .gtr 97 100 41 42 <|
             qB 43 (
              qG 12) (
              qD 5 3 <|
              qF .lss 105 0 44 <|
              qB 45 (
               qG 1) (
               qD 5 3 <|
               qF .neq 109 0 46 <|
               qB 47 (
                qD 1 8 <|
                qF .neq 113 3 48 <|
                qB 49 (
                 qG 1) (
                 qG 0)) (
                qG 0))))) (
            qD 5 3 <|
            qF .lss 105 0 38 <|
            qB 39 (
             qG 1) (
             qD 5 3 <|
             qF .neq 109 0 40 <|
             qB 41 (
              qD 1 8 <|
              qF .neq 113 3 42 <|
              qB 43 (
               qG 1) (
               qG 0)) (
              qG 0)))) (
           qD 5 3 <|
           qF .lss 105 0 36 <|
           qB 37 (
            qG 1) (
            qD 5 3 <|
            qF .neq 109 0 38 <|
            qB 39 (
             qD 1 8 <|
             qF .neq 113 3 40 <|
             qB 41 (
              qG 1) (
              qG 0)) (
             qG 0))))) (
         qD 1 8 <|
         vT 63 [.v 31] 1 <|
         qB 32 (
          qD 1 8 <|
          qF .neq 83 0 33 <|
          qB 34 (
           qD 3 3 <|
           qD 3 13 <|
           vB .lss 89 92 35 36 <|
           qB 37 (
            qG 12) (
            qD 4 3 <|
            qD 4 13 <|
            vB .gtr 97 100 38 39 <|
            qB 40 (
             qG 12) (
             qD 5 3 <|
             qF .lss 105 0 41 <|
             qB 42 (
              qG 1) (
              qD 5 3 <|
              qF .neq 109 0 43 <|
              qB 44 (
               qD 1 8 <|
               qF .neq 113 3 45 <|
               qB 46 (
                qG 1) (
                qG 0)) (
               qG 0))))) (
           qD 5 3 <|
           qF .lss 105 0 35 <|
           qB 36 (
            qG 1) (
            qD 5 3 <|
            qF .neq 109 0 37 <|
            qB 38 (
             qD 1 8 <|
             qF .neq 113 3 39 <|
             qB 40 (
              qG 1) (
              qG 0)) (
             qG 0)))) (
          qD 5 3 <|
          qF .lss 105 0 33 <|
          qB 34 (
           qG 1) (
           qD 5 3 <|
           qF .neq 109 0 35 <|
           qB 36 (
            qD 1 8 <|
            qF .neq 113 3 37 <|
            qB 38 (
             qG 1) (
             qG 0)) (
            qG 0))))))) (
      qD 1 8 <|
      vT 63 [.v 25] 1 <|
      qB 26 (
       .bind (.fld true 2 3) [.v 3] <|
       vT 118 [.v 27] 1 <|
       .bind (.un .not 4) [.v 28] <|
       qB 29 (
        qG 12) (
        qD 1 8 <|
        qF .eql 67 0 30 <|
        qB 31 (
         qD 4 3 <|
         qD 2 2 <|
         vB .gtr 72 75 32 33 <|
         qB 34 (
          qG 12) (
          qD 1 8 <|
          vT 63 [.v 35] 1 <|
          qB 36 (
           qD 1 8 <|
           qF .neq 83 0 37 <|
           qB 38 (
            qD 3 3 <|
            qD 3 13 <|
            vB .lss 89 92 39 40 <|
            qB 41 (
             qG 12) (
             qD 4 3 <|
             qD 4 13 <|
             vB .gtr 97 100 42 43 <|
             qB 44 (
              qG 12) (
              qD 5 3 <|
              qF .lss 105 0 45 <|
              qB 46 (
               qG 1) (
               qD 5 3 <|
               qF .neq 109 0 47 <|
               qB 48 (
                qD 1 8 <|
                qF .neq 113 3 49 <|
                qB 50 (
                 qG 1) (
                 qG 0)) (
                qG 0))))) (
            qD 5 3 <|
            qF .lss 105 0 39 <|
            qB 40 (
             qG 1) (
             qD 5 3 <|
             qF .neq 109 0 41 <|
             qB 42 (
              qD 1 8 <|
              qF .neq 113 3 43 <|
              qB 44 (
               qG 1) (
               qG 0)) (
              qG 0)))) (
           qD 5 3 <|
           qF .lss 105 0 37 <|
           qB 38 (
            qG 1) (
            qD 5 3 <|
            qF .neq 109 0 39 <|
            qB 40 (
             qD 1 8 <|
             qF .neq 113 3 41 <|
             qB 42 (
              qG 1) (
              qG 0)) (
             qG 0))))) (
         qD 1 8 <|
         vT 63 [.v 32] 1 <|
         qB 33 (
          qD 1 8 <|
          qF .neq 83 0 34 <|
          qB 35 (
           qD 3 3 <|
           qD 3 13 <|
           vB .lss 89 92 36 37 <|
           qB 38 (
            qG 12) (
            qD 4 3 <|
            qD 4 13 <|
            vB .gtr 97 100 39 40 <|
            qB 41 (
             qG 12) (
             qD 5 3 <|
             qF .lss 105 0 42 <|
             qB 43 (
              qG 1) (
              qD 5 3 <|
              qF .neq 109 0 44 <|
              qB 45 (
               qD 1 8 <|
               qF .neq 113 3 46 <|
               qB 47 (
                qG 1) (
                qG 0)) (
               qG 0))))) (
           qD 5 3 <|
           qF .lss 105 0 36 <|
           qB 37 (
            qG 1) (
            qD 5 3 <|
            qF .neq 109 0 38 <|
            qB 39 (
             qD 1 8 <|
             qF .neq 113 3 40 <|
             qB 41 (
              qG 1) (
              qG 0)) (
             qG 0)))) (
          qD 5 3 <|
          qF .lss 105 0 34 <|
          qB 35 (
           qG 1) (
           qD 5 3 <|
           qF .neq 109 0 36 <|
           qB 37 (
            qD 1 8 <|
            qF .neq 113 3 38 <|
            qB 39 (
             qG 1) (
             qG 0)) (
            qG 0)))))) (
       qD 1 8 <|
       qF .eql 67 0 27 <|
       qB 28 (
        qD 4 3 <|
        qD 2 2 <|
        vB .gtr 72 75 29 30 <|
        qB 31 (
         qG 12) (
         qD 1 8 <|
         vT 63 [.v 32] 1 <|
         qB 33 (
          qD 1 8 <|
          qF .neq 83 0 34 <|
          qB 35 (
           qD 3 3 <|
           qD 3 13 <|
           vB .lss 89 92 36 37 <|
           qB 38 (
            qG 12) (
            qD 4 3 <|
            qD 4 13 <|
            vB .gtr 97 100 39 40 <|
            qB 41 (
             qG 12) (
             qD 5 3 <|
             qF .lss 105 0 42 <|
             qB 43 (
              qG 1) (
              qD 5 3 <|
              qF .neq 109 0 44 <|
              qB 45 (
               qD 1 8 <|
               qF .neq 113 3 46 <|
               qB 47 (
                qG 1) (
                qG 0)) (
               qG 0))))) (
           qD 5 3 <|
           qF .lss 105 0 36 <|
           qB 37 (
            qG 1) (
            qD 5 3 <|
            qF .neq 109 0 38 <|
            qB 39 (
             qD 1 8 <|
             qF .neq 113 3 40 <|
             qB 41 (
              qG 1) (
              qG 0)) (
             qG 0)))) (
          qD 5 3 <|
          qF .lss 105 0 34 <|
          qB 35 (
           qG 1) (
           qD 5 3 <|
           qF .neq 109 0 36 <|
           qB 37 (
            qD 1 8 <|
            qF .neq 113 3 38 <|
            qB 39 (
             qG 1) (
             qG 0)) (
            qG 0))))) (
        qD 1 8 <|
        vT 63 [.v 29] 1 <|
        qB 30 (
         qD 1 8 <|
         qF .neq 83 0 31 <|
         qB 32 (
          qD 3 3 <|
          qD 3 13 <|
          vB .lss 89 92 33 34 <|
          qB 35 (
           qG 12) (
           qD 4 3 <|
           qD 4 13 <|
           vB .gtr 97 100 36 37 <|
           qB 38 (
            qG 12) (
            qD 5 3 <|
            qF .lss 105 0 39 <|
            qB 40 (
             qG 1) (
             qD 5 3 <|
             qF .neq 109 0 41 <|
             qB 42 (
              qD 1 8 <|
              qF .neq 113 3 43 <|
              qB 44 (
               qG 1) (
               qG 0)) (
              qG 0))))) (
          qD 5 3 <|
          qF .lss 105 0 33 <|
          qB 34 (
           qG 1) (
           qD 5 3 <|
           qF .neq 109 0 35 <|
           qB 36 (
            qD 1 8 <|
            qF .neq 113 3 37 <|
            qB 38 (
             qG 1) (
             qG 0)) (
            qG 0)))) (
         qD 5 3 <|
         qF .lss 105 0 31 <|
         qB 32 (
          qG 1) (
          qD 5 3 <|
          qF .neq 109 0 33 <|
          qB 34 (
           qD 1 8 <|
           qF .neq 113 3 35 <|
           qB 36 (
            qG 1) (
            qG 0)) (
           qG 0))))))))) (
   qD 1 8 <|
   vT 63 [.v 18] 1 <|
   .bind (.un .not 4) [.v 19] <|
   qB 20 (
    .bind (.fld true 2 3) [.v 3] <|
    .bind (.bin .neq 60 (.tmp 51) (.tmp 52)) [.v 21,.agg [k' 0,k' 0]] <|
    qB 22 (
     qG 12) (
     qD 1 8 <|
     vT 63 [.v 23] 1 <|
     qB 24 (
      .bind (.fld true 2 3) [.v 3] <|
      vT 118 [.v 25] 1 <|
      .bind (.un .not 4) [.v 26] <|
      qB 27 (
       qG 12) (
       qD 1 8 <|
       qF .eql 67 0 28 <|
       qB 29 (
        qD 4 3 <|
        qD 2 2 <|
        vB .gtr 72 75 30 31 <|
        qB 32 (
         qG 12) (
         qD 1 8 <|
         vT 63 [.v 33] 1 <|
         qB 34 (
          qD 1 8 <|
          qF .neq 83 0 35 <|
          qB 36 (
           qD 3 3 <|
           qD 3 13 <|
           vB .lss 89 92 37 38 <|
           qB 39 (
            qG 12) (
            qD 4 3 <|
            qD 4 13 <|
            vB .gtr 97 100 40 41 <|
            qB 42 (
             qG 12) (
             qD 5 3 <|
             qF .lss 105 0 43 <|
             qB 44 (
              qG 1) (
              qD 5 3 <|
              qF .neq 109 0 45 <|
              qB 46 (
               qD 1 8 <|
               qF .neq 113 3 47 <|
               qB 48 (
                qG 1) (
                qG 0)) (
               qG 0))))) (
           qD 5 3 <|
           qF .lss 105 0 37 <|
           qB 38 (
            qG 1) (
            qD 5 3 <|
            qF .neq 109 0 39 <|
            qB 40 (
             qD 1 8 <|
             qF .neq 113 3 41 <|
             qB 42 (
              qG 1) (
              qG 0)) (
             qG 0)))) (
          qD 5 3 <|
          qF .lss 105 0 35 <|
          qB 36 (
           qG 1) (
           qD 5 3 <|
           qF .neq 109 0 37 <|
           qB 38 (
            qD 1 8 <|
            qF .neq 113 3 39 <|
            qB 40 (
             qG 1) (
             qG 0)) (
            qG 0))))) (
        qD 1 8 <|
        vT 63 [.v 30] 1 <|
        qB 31 (
         qD 1 8 <|
         qF .neq 83 0 32 <|
         qB 33 (
          qD 3 3 <|
          qD 3 13 <|
          vB .lss 89 92 34 35 <|
          qB 36 (
           qG 12) (
           qD 4 3 <|
           qD 4 13 <|
           vB .gtr 97 100 37 38 <|
           qB 39 (
            qG 12) (
            qD 5 3 <|
            qF .lss 105 0 40 <|
            qB 41 (
             qG 1) (
             qD 5 3 <|
             qF .neq 109 0 42 <|
             qB 43 (
              qD 1 8 <|
              qF .neq 113 3 44 <|
              qB 45 (
               qG 1) (
               qG 0)) (
              qG 0))))) (
          qD 5 3 <|
          qF .lss 105 0 34 <|
          qB 35 (
           qG 1) (
           qD 5 3 <|
           qF .neq 109 0 36 <|
           qB 37 (
            qD 1 8 <|
            qF .neq 113 3 38 <|
            qB 39 (
             qG 1) (
             qG 0)) (
            qG 0)))) (
         qD 5 3 <|
         qF .lss 105 0 32 <|
         qB 33 (
          qG 1) (
          qD 5 3 <|
          qF .neq 109 0 34 <|
          qB 35 (
           qD 1 8 <|
           qF .neq 113 3 36 <|
           qB 37 (
            qG 1) (
            qG 0)) (
           qG 0)))))) (
      qD 1 8 <|
      qF .eql 67 0 25 <|
      qB 26 (
       qD 4 3 <|
       qD 2 2 <|
       vB .gtr 72 75 27 28 <|
       qB 29 (
        qG 12) (
        qD 1 8 <|
        vT 63 [.v 30] 1 <|
        qB 31 (
         qD 1 8 <|
         qF .neq 83 0 32 <|
         qB 33 (
          qD 3 3 <|
          qD 3 13 <|
          vB .lss 89 92 34 35 <|
          qB 36 (
           qG 12) (
           qD 4 3 <|
           qD 4 13 <|
           vB .gtr 97 100 37 38 <|
           qB 39 (
            qG 12) (
            qD 5 3 <|
            qF .lss 105 0 40 <|
            qB 41 (
             qG 1) (
             qD 5 3 <|
             qF .neq 109 0 42 <|
             qB 43 (
              qD 1 8 <|
              qF .neq 113 3 44 <|
              qB 45 (
               qG 1) (
               qG 0)) (
              qG 0))))) (
          qD 5 3 <|
          qF .lss 105 0 34 <|
          qB 35 (
           qG 1) (
           qD 5 3 <|
           qF .neq 109 0 36 <|
           qB 37 (
            qD 1 8 <|
            qF .neq 113 3 38 <|
            qB 39 (
             qG 1) (
             qG 0)) (
            qG 0)))) (
         qD 5 3 <|
         qF .lss 105 0 32 <|
         qB 33 (
          qG 1) (
          qD 5 3 <|
          qF .neq 109 0 34 <|
          qB 35 (
           qD 1 8 <|
           qF .neq 113 3 36 <|
           qB 37 (
            qG 1) (
            qG 0)) (
           qG 0))))) (
       qD 1 8 <|
       vT 63 [.v 27] 1 <|
       qB 28 (
        qD 1 8 <|
        qF .neq 83 0 29 <|
        qB 30 (
         qD 3 3 <|
         qD 3 13 <|
         vB .lss 89 92 31 32 <|
         qB 33 (
          qG 12) (
          qD 4 3 <|
          qD 4 13 <|
          vB .gtr 97 100 34 35 <|
          qB 36 (
           qG 12) (
           qD 5 3 <|
           qF .lss 105 0 37 <|
           qB 38 (
            qG 1) (
            qD 5 3 <|
            qF .neq 109 0 39 <|
            qB 40 (
             qD 1 8 <|
             qF .neq 113 3 41 <|
             qB 42 (
              qG 1) (
              qG 0)) (
             qG 0))))) (
         qD 5 3 <|
         qF .lss 105 0 31 <|
         qB 32 (
          qG 1) (
          qD 5 3 <|
          qF .neq 109 0 33 <|
          qB 34 (
           qD 1 8 <|
           qF .neq 113 3 35 <|
           qB 36 (
            qG 1) (
            qG 0)) (
           qG 0)))) (
        qD 5 3 <|
        qF .lss 105 0 29 <|
        qB 30 (
         qG 1) (
         qD 5 3 <|
         qF .neq 109 0 31 <|
         qB 32 (
          qD 1 8 <|
          qF .neq 113 3 33 <|
          qB 34 (
           qG 1) (
           qG 0)) (
          qG 0))))))) (
    qD 1 8 <|
    vT 63 [.v 21] 1 <|
    qB 22 (
     .bind (.fld true 2 3) [.v 3] <|
     vT 118 [.v 23] 1 <|
     .bind (.un .not 4) [.v 24] <|
     qB 25 (
      qG 12) (
      qD 1 8 <|
      qF .eql 67 0 26 <|
      qB 27 (
       qD 4 3 <|
       qD 2 2 <|
       vB .gtr 72 75 28 29 <|
       qB 30 (
        qG 12) (
        qD 1 8 <|
        vT 63 [.v 31] 1 <|
        qB 32 (
         qD 1 8 <|
         qF .neq 83 0 33 <|
         qB 34 (
          qD 3 3 <|
          qD 3 13 <|
          vB .lss 89 92 35 36 <|
          qB 37 (
           qG 12) (
           qD 4 3 <|
           qD 4 13 <|
           vB .gtr 97 100 38 39 <|
           qB 40 (
            qG 12) (
            qD 5 3 <|
            qF .lss 105 0 41 <|
            qB 42 (
             qG 1) (
             qD 5 3 <|
             qF .neq 109 0 43 <|
             qB 44 (
              qD 1 8 <|
              qF .neq 113 3 45 <|
              qB 46 (
               qG 1) (
               qG 0)) (
              qG 0))))) (
          qD 5 3 <|
          qF .lss 105 0 35 <|
          qB 36 (
           qG 1) (
           qD 5 3 <|
           qF .neq 109 0 37 <|
           qB 38 (
            qD 1 8 <|
            qF .neq 113 3 39 <|
            qB 40 (
             qG 1) (
             qG 0)) (
            qG 0)))) (
         qD 5 3 <|
         qF .lss 105 0 33 <|
         qB 34 (
          qG 1) (
          qD 5 3 <|
          qF .neq 109 0 35 <|
          qB 36 (
           qD 1 8 <|
           qF .neq 113 3 37 <|
           qB 38 (
            qG 1) (
            qG 0)) (
           qG 0))))) (
       qD 1 8 <|
       vT 63 [.v 28] 1 <|
       qB 29 (
        qD 1 8 <|
        qF .neq 83 0 30 <|
        qB 31 (
         qD 3 3 <|
         qD 3 13 <|
         vB .lss 89 92 32 33 <|
         qB 34 (
          qG 12) (
          qD 4 3 <|
          qD 4 13 <|
          vB .gtr 97 100 35 36 <|
          qB 37 (
           qG 12) (
           qD 5 3 <|
           qF .lss 105 0 38 <|
           qB 39 (
            qG 1) (
            qD 5 3 <|
            qF .neq 109 0 40 <|
            qB 41 (
             qD 1 8 <|
             qF .neq 113 3 42 <|
             qB 43 (
              qG 1) (
              qG 0)) (
             qG 0))))) (
         qD 5 3 <|
         qF .lss 105 0 32 <|
         qB 33 (
          qG 1) (
          qD 5 3 <|
          qF .neq 109 0 34 <|
          qB 35 (
           qD 1 8 <|
           qF .neq 113 3 36 <|
           qB 37 (
            qG 1) (
            qG 0)) (
           qG 0)))) (
        qD 5 3 <|
        qF .lss 105 0 30 <|
        qB 31 (
         qG 1) (
         qD 5 3 <|
         qF .neq 109 0 32 <|
         qB 33 (
          qD 1 8 <|
          qF .neq 113 3 34 <|
          qB 35 (
           qG 1) (
           qG 0)) (
          qG 0)))))) (
     qD 1 8 <|
     qF .eql 67 0 23 <|
     qB 24 (
      qD 4 3 <|
      qD 2 2 <|
      vB .gtr 72 75 25 26 <|
      qB 27 (
       qG 12) (
       qD 1 8 <|
       vT 63 [.v 28] 1 <|
       qB 29 (
        qD 1 8 <|
        qF .neq 83 0 30 <|
        qB 31 (
         qD 3 3 <|
         qD 3 13 <|
         vB .lss 89 92 32 33 <|
         qB 34 (
          qG 12) (
          qD 4 3 <|
          qD 4 13 <|
          vB .gtr 97 100 35 36 <|
          qB 37 (
           qG 12) (
           qD 5 3 <|
           qF .lss 105 0 38 <|
           qB 39 (
            qG 1) (
            qD 5 3 <|
            qF .neq 109 0 40 <|
            qB 41 (
             qD 1 8 <|
             qF .neq 113 3 42 <|
             qB 43 (
              qG 1) (
              qG 0)) (
             qG 0))))) (
         qD 5 3 <|
         qF .lss 105 0 32 <|
         qB 33 (
          qG 1) (
          qD 5 3 <|
          qF .neq 109 0 34 <|
          qB 35 (
           qD 1 8 <|
           qF .neq 113 3 36 <|
           qB 37 (
            qG 1) (
            qG 0)) (
           qG 0)))) (
        qD 5 3 <|
        qF .lss 105 0 30 <|
        qB 31 (
         qG 1) (
         qD 5 3 <|
         qF .neq 109 0 32 <|
         qB 33 (
          qD 1 8 <|
          qF .neq 113 3 34 <|
          qB 35 (
           qG 1) (
           qG 0)) (
          qG 0))))) (
      qD 1 8 <|
      vT 63 [.v 25] 1 <|
      qB 26 (
       qD 1 8 <|
       qF .neq 83 0 27 <|
       qB 28 (
        qD 3 3 <|
        qD 3 13 <|
        vB .lss 89 92 29 30 <|
        qB 31 (
         qG 12) (
         qD 4 3 <|
         qD 4 13 <|
         vB .gtr 97 100 32 33 <|
         qB 34 (
          qG 12) (
          qD 5 3 <|
          qF .lss 105 0 35 <|
          qB 36 (
           qG 1) (
           qD 5 3 <|
           qF .neq 109 0 37 <|
           qB 38 (
            qD 1 8 <|
            qF .neq 113 3 39 <|
            qB 40 (
             qG 1) (
             qG 0)) (
            qG 0))))) (
        qD 5 3 <|
        qF .lss 105 0 29 <|
        qB 30 (
         qG 1) (
         qD 5 3 <|
         qF .neq 109 0 31 <|
         qB 32 (
          qD 1 8 <|
          qF .neq 113 3 33 <|
          qB 34 (
           qG 1) (
           qG 0)) (
          qG 0)))) (
       qD 5 3 <|
       qF .lss 105 0 27 <|
       qB 28 (
        qG 1) (
        qD 5 3 <|
        qF .neq 109 0 29 <|
        qB 30 (
         qD 1 8 <|
         qF .neq 113 3 31 <|
         qB 32 (
          qG 1) (
          qG 0)) (
         qG 0))))))))
def qNk:Nat->Tree
 | 0=>qIz
 | _=>.fail
theorem qKW:(rtQ Tryz.f83 2 qQX,
 hd Tryz.f83 2 qQX,
 nr Tryz.f83) =
 (qIz,[],false):=by kernel_rfl
theorem qUR {ds:List D} {d:D} (hn:ds.length=2) (h:qH EE (Holds EE) qNk 0 ds d):Holds EE 83 ds d :=
 hu Tryz.func83 rfl ((pI qKW).1) ((pI (wG qKW)).1) ((wG (wG qKW))) (xB) hn h
end Go.Proofs.YthhlmoidofecpaaGreat
