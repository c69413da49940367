/- The evaluator's tables for this program (printed by mkinst.py). -/
import Derived.Test.YtnkhpfincnfloaaGreatDoorAxC
import Derived.Test.YtnkhpfincnfloaaGreatDoorChecked
import Derived.KernelRfl
import Derived.Test.YtnkhpfincnfloaaGreatDoorAxD
set_option linter.unusedSimpArgs false
set_option linter.unusedVariables false
namespace Go.FInst
open Go.Proofs Go.Ax
set_option maxRecDepth 100000
def intCells(k:IntKind)(l:List Int):List AV:=l.map (.int k)
noncomputable def TT:Tab TypeInfo:=(.node (.node (.node (.node (.node (.node (.node (.node (.node (.node .nil 0 Tryz.t0 .nil) 1 Tryz.t1 .nil) 2 Tryz.t2 (.node .nil 3 Tryz.t3 .nil)) 4 Tryz.t4 (.node (.node .nil 5 Tryz.t5 .nil) 6 Tryz.t6 (.node .nil 7 Tryz.t7 .nil))) 8 Tryz.t8 (.node (.node (.node (.node .nil 9 Tryz.t9 .nil) 10 Tryz.t10 .nil) 11 Tryz.t11 (.node .nil 12 Tryz.t12 .nil)) 13 Tryz.t13 (.node (.node .nil 14 Tryz.t14 .nil) 15 Tryz.t15 (.node .nil 16 Tryz.t16 .nil)))) 17 Tryz.t17 (.node (.node (.node (.node (.node .nil 18 Tryz.t18 .nil) 19 Tryz.t19 .nil) 20 Tryz.t20 (.node .nil 21 Tryz.t21 .nil)) 22 Tryz.t22 (.node (.node .nil 23 Tryz.t23 .nil) 24 Tryz.t24 (.node .nil 25 Tryz.t25 .nil))) 26 Tryz.t26 (.node (.node (.node .nil 27 Tryz.t27 .nil) 28 Tryz.t28 (.node .nil 29 Tryz.t29 .nil)) 30 Tryz.t30 (.node (.node .nil 31 Tryz.t31 .nil) 32 Tryz.t32 (.node .nil 33 Tryz.t33 .nil))))) 34 Tryz.t34 (.node (.node (.node (.node (.node (.node .nil 35 Tryz.t35 .nil) 36 Tryz.t36 .nil) 37 Tryz.t37 (.node .nil 38 Tryz.t38 .nil)) 39 Tryz.t39 (.node (.node .nil 40 Tryz.t40 .nil) 41 Tryz.t41 (.node .nil 42 Tryz.t42 .nil))) 43 Tryz.t43 (.node (.node (.node (.node .nil 44 Tryz.t44 .nil) 45 Tryz.t45 .nil) 46 Tryz.t46 (.node .nil 47 Tryz.t47 .nil)) 48 Tryz.t48 (.node (.node .nil 49 Tryz.t49 .nil) 50 Tryz.t50 (.node .nil 51 Tryz.t51 .nil)))) 52 Tryz.t52 (.node (.node (.node (.node (.node .nil 53 Tryz.t53 .nil) 54 Tryz.t54 .nil) 55 Tryz.t55 (.node .nil 56 Tryz.t56 .nil)) 57 Tryz.t57 (.node (.node .nil 58 Tryz.t58 .nil) 59 Tryz.t59 (.node .nil 60 Tryz.t60 .nil))) 61 Tryz.t61 (.node (.node (.node .nil 62 Tryz.t62 .nil) 63 Tryz.t63 (.node .nil 64 Tryz.t64 .nil)) 65 Tryz.t65 (.node (.node .nil 66 Tryz.t66 .nil) 67 Tryz.t67 (.node .nil 68 Tryz.t68 .nil)))))) 69 Tryz.t69 (.node (.node (.node (.node (.node (.node (.node .nil 70 Tryz.t70 .nil) 71 Tryz.t71 .nil) 72 Tryz.t72 (.node .nil 73 Tryz.t73 .nil)) 74 Tryz.t74 (.node (.node .nil 75 Tryz.t75 .nil) 76 Tryz.t76 (.node .nil 77 Tryz.t77 .nil))) 78 Tryz.t78 (.node (.node (.node (.node .nil 79 Tryz.t79 .nil) 80 Tryz.t80 .nil) 81 Tryz.t81 (.node .nil 82 Tryz.t82 .nil)) 83 Tryz.t83 (.node (.node .nil 84 Tryz.t84 .nil) 85 Tryz.t85 (.node .nil 86 Tryz.t86 .nil)))) 87 Tryz.t87 (.node (.node (.node (.node (.node .nil 88 Tryz.t88 .nil) 89 Tryz.t89 .nil) 90 Tryz.t90 (.node .nil 91 Tryz.t91 .nil)) 92 Tryz.t92 (.node (.node .nil 93 Tryz.t93 .nil) 94 Tryz.t94 (.node .nil 95 Tryz.t95 .nil))) 96 Tryz.t96 (.node (.node (.node .nil 97 Tryz.t97 .nil) 98 Tryz.t98 (.node .nil 99 Tryz.t99 .nil)) 100 Tryz.t100 (.node (.node .nil 101 Tryz.t101 .nil) 102 Tryz.t102 (.node .nil 103 Tryz.t103 .nil))))) 104 Tryz.t104 (.node (.node (.node (.node (.node (.node .nil 105 Tryz.t105 .nil) 106 Tryz.t106 .nil) 107 Tryz.t107 (.node .nil 108 Tryz.t108 .nil)) 109 Tryz.t109 (.node (.node .nil 110 Tryz.t110 .nil) 111 Tryz.t111 (.node .nil 112 Tryz.t112 .nil))) 113 Tryz.t113 (.node (.node (.node .nil 114 Tryz.t114 .nil) 115 Tryz.t115 (.node .nil 116 Tryz.t116 .nil)) 117 Tryz.t117 (.node (.node .nil 118 Tryz.t118 .nil) 119 Tryz.t119 (.node .nil 120 Tryz.t120 .nil)))) 121 Tryz.t121 (.node (.node (.node (.node (.node .nil 122 Tryz.t122 .nil) 123 Tryz.t123 .nil) 124 Tryz.t124 (.node .nil 125 Tryz.t125 .nil)) 126 Tryz.t126 (.node (.node .nil 127 Tryz.t127 .nil) 128 Tryz.t128 (.node .nil 129 Tryz.t129 .nil))) 130 Tryz.t130 (.node (.node (.node .nil 131 Tryz.t131 .nil) 132 Tryz.t132 (.node .nil 133 Tryz.t133 .nil)) 134 Tryz.t134 (.node (.node .nil 135 Tryz.t135 .nil) 136 Tryz.t136 (.node .nil 137 Tryz.t137 .nil))))))) 138 Tryz.t138 (.node (.node (.node (.node (.node (.node (.node (.node .nil 139 Tryz.t139 .nil) 140 Tryz.t140 .nil) 141 Tryz.t141 (.node .nil 142 Tryz.t142 .nil)) 143 Tryz.t143 (.node (.node .nil 144 Tryz.t144 .nil) 145 Tryz.t145 (.node .nil 146 Tryz.t146 .nil))) 147 Tryz.t147 (.node (.node (.node (.node .nil 148 Tryz.t148 .nil) 149 Tryz.t149 .nil) 150 Tryz.t150 (.node .nil 151 Tryz.t151 .nil)) 152 Tryz.t152 (.node (.node .nil 153 Tryz.t153 .nil) 154 Tryz.t154 (.node .nil 155 Tryz.t155 .nil)))) 156 Tryz.t156 (.node (.node (.node (.node (.node .nil 157 Tryz.t157 .nil) 158 Tryz.t158 .nil) 159 Tryz.t159 (.node .nil 160 Tryz.t160 .nil)) 161 Tryz.t161 (.node (.node .nil 162 Tryz.t162 .nil) 163 Tryz.t163 (.node .nil 164 Tryz.t164 .nil))) 165 Tryz.t165 (.node (.node (.node .nil 166 Tryz.t166 .nil) 167 Tryz.t167 (.node .nil 168 Tryz.t168 .nil)) 169 Tryz.t169 (.node (.node .nil 170 Tryz.t170 .nil) 171 Tryz.t171 (.node .nil 172 Tryz.t172 .nil))))) 173 Tryz.t173 (.node (.node (.node (.node (.node (.node .nil 174 Tryz.t174 .nil) 175 Tryz.t175 .nil) 176 Tryz.t176 (.node .nil 177 Tryz.t177 .nil)) 178 Tryz.t178 (.node (.node .nil 179 Tryz.t179 .nil) 180 Tryz.t180 (.node .nil 181 Tryz.t181 .nil))) 182 Tryz.t182 (.node (.node (.node (.node .nil 183 Tryz.t183 .nil) 184 Tryz.t184 .nil) 185 Tryz.t185 (.node .nil 186 Tryz.t186 .nil)) 187 Tryz.t187 (.node (.node .nil 188 Tryz.t188 .nil) 189 Tryz.t189 (.node .nil 190 Tryz.t190 .nil)))) 191 Tryz.t191 (.node (.node (.node (.node (.node .nil 192 Tryz.t192 .nil) 193 Tryz.t193 .nil) 194 Tryz.t194 (.node .nil 195 Tryz.t195 .nil)) 196 Tryz.t196 (.node (.node .nil 197 Tryz.t197 .nil) 198 Tryz.t198 (.node .nil 199 Tryz.t199 .nil))) 200 Tryz.t200 (.node (.node (.node .nil 201 Tryz.t201 .nil) 202 Tryz.t202 (.node .nil 203 Tryz.t203 .nil)) 204 Tryz.t204 (.node (.node .nil 205 Tryz.t205 .nil) 206 Tryz.t206 (.node .nil 207 Tryz.t207 .nil)))))) 208 Tryz.t208 (.node (.node (.node (.node (.node (.node (.node .nil 209 Tryz.t209 .nil) 210 Tryz.t210 .nil) 211 Tryz.t211 (.node .nil 212 Tryz.t212 .nil)) 213 Tryz.t213 (.node (.node .nil 214 Tryz.t214 .nil) 215 Tryz.t215 (.node .nil 216 Tryz.t216 .nil))) 217 Tryz.t217 (.node (.node (.node (.node .nil 218 Tryz.t218 .nil) 219 Tryz.t219 .nil) 220 Tryz.t220 (.node .nil 221 Tryz.t221 .nil)) 222 Tryz.t222 (.node (.node .nil 223 Tryz.t223 .nil) 224 Tryz.t224 (.node .nil 225 Tryz.t225 .nil)))) 226 Tryz.t226 (.node (.node (.node (.node (.node .nil 227 Tryz.t227 .nil) 228 Tryz.t228 .nil) 229 Tryz.t229 (.node .nil 230 Tryz.t230 .nil)) 231 Tryz.t231 (.node (.node .nil 232 Tryz.t232 .nil) 233 Tryz.t233 (.node .nil 234 Tryz.t234 .nil))) 235 Tryz.t235 (.node (.node (.node .nil 236 Tryz.t236 .nil) 237 Tryz.t237 (.node .nil 238 Tryz.t238 .nil)) 239 Tryz.t239 (.node (.node .nil 240 Tryz.t240 .nil) 241 Tryz.t241 (.node .nil 242 Tryz.t242 .nil))))) 243 Tryz.t243 (.node (.node (.node (.node (.node (.node .nil 244 Tryz.t244 .nil) 245 Tryz.t245 .nil) 246 Tryz.t246 (.node .nil 247 Tryz.t247 .nil)) 248 Tryz.t248 (.node (.node .nil 249 Tryz.t249 .nil) 250 Tryz.t250 (.node .nil 251 Tryz.t251 .nil))) 252 Tryz.t252 (.node (.node (.node .nil 253 Tryz.t253 .nil) 254 Tryz.t254 (.node .nil 255 Tryz.t255 .nil)) 256 Tryz.t256 (.node (.node .nil 257 Tryz.t257 .nil) 258 Tryz.t258 (.node .nil 259 Tryz.t259 .nil)))) 260 Tryz.t260 (.node (.node (.node (.node (.node .nil 261 Tryz.t261 .nil) 262 Tryz.t262 .nil) 263 Tryz.t263 (.node .nil 264 Tryz.t264 .nil)) 265 Tryz.t265 (.node (.node .nil 266 Tryz.t266 .nil) 267 Tryz.t267 (.node .nil 268 Tryz.t268 .nil))) 269 Tryz.t269 (.node (.node (.node .nil 270 Tryz.t270 .nil) 271 Tryz.t271 (.node .nil 272 Tryz.t272 .nil)) 273 Tryz.t273 (.node (.node .nil 274 Tryz.t274 .nil) 275 Tryz.t275 (.node .nil 276 Tryz.t276 .nil)))))))) 277 Tryz.t277 (.node (.node (.node (.node (.node (.node (.node (.node (.node .nil 278 Tryz.t278 .nil) 279 Tryz.t279 .nil) 280 Tryz.t280 (.node .nil 281 Tryz.t281 .nil)) 282 Tryz.t282 (.node (.node .nil 283 Tryz.t283 .nil) 284 Tryz.t284 (.node .nil 285 Tryz.t285 .nil))) 286 Tryz.t286 (.node (.node (.node (.node .nil 287 Tryz.t287 .nil) 288 Tryz.t288 .nil) 289 Tryz.t289 (.node .nil 290 Tryz.t290 .nil)) 291 Tryz.t291 (.node (.node .nil 292 Tryz.t292 .nil) 293 Tryz.t293 (.node .nil 294 Tryz.t294 .nil)))) 295 Tryz.t295 (.node (.node (.node (.node (.node .nil 296 Tryz.t296 .nil) 297 Tryz.t297 .nil) 298 Tryz.t298 (.node .nil 299 Tryz.t299 .nil)) 300 Tryz.t300 (.node (.node .nil 301 Tryz.t301 .nil) 302 Tryz.t302 (.node .nil 303 Tryz.t303 .nil))) 304 Tryz.t304 (.node (.node (.node .nil 305 Tryz.t305 .nil) 306 Tryz.t306 (.node .nil 307 Tryz.t307 .nil)) 308 Tryz.t308 (.node (.node .nil 309 Tryz.t309 .nil) 310 Tryz.t310 (.node .nil 311 Tryz.t311 .nil))))) 312 Tryz.t312 (.node (.node (.node (.node (.node (.node .nil 313 Tryz.t313 .nil) 314 Tryz.t314 .nil) 315 Tryz.t315 (.node .nil 316 Tryz.t316 .nil)) 317 Tryz.t317 (.node (.node .nil 318 Tryz.t318 .nil) 319 Tryz.t319 (.node .nil 320 Tryz.t320 .nil))) 321 Tryz.t321 (.node (.node (.node (.node .nil 322 Tryz.t322 .nil) 323 Tryz.t323 .nil) 324 Tryz.t324 (.node .nil 325 Tryz.t325 .nil)) 326 Tryz.t326 (.node (.node .nil 327 Tryz.t327 .nil) 328 Tryz.t328 (.node .nil 329 Tryz.t329 .nil)))) 330 Tryz.t330 (.node (.node (.node (.node (.node .nil 331 Tryz.t331 .nil) 332 Tryz.t332 .nil) 333 Tryz.t333 (.node .nil 334 Tryz.t334 .nil)) 335 Tryz.t335 (.node (.node .nil 336 Tryz.t336 .nil) 337 Tryz.t337 (.node .nil 338 Tryz.t338 .nil))) 339 Tryz.t339 (.node (.node (.node .nil 340 Tryz.t340 .nil) 341 Tryz.t341 (.node .nil 342 Tryz.t342 .nil)) 343 Tryz.t343 (.node (.node .nil 344 Tryz.t344 .nil) 345 Tryz.t345 (.node .nil 346 Tryz.t346 .nil)))))) 347 Tryz.t347 (.node (.node (.node (.node (.node (.node (.node .nil 348 Tryz.t348 .nil) 349 Tryz.t349 .nil) 350 Tryz.t350 (.node .nil 351 Tryz.t351 .nil)) 352 Tryz.t352 (.node (.node .nil 353 Tryz.t353 .nil) 354 Tryz.t354 (.node .nil 355 Tryz.t355 .nil))) 356 Tryz.t356 (.node (.node (.node (.node .nil 357 Tryz.t357 .nil) 358 Tryz.t358 .nil) 359 Tryz.t359 (.node .nil 360 Tryz.t360 .nil)) 361 Tryz.t361 (.node (.node .nil 362 Tryz.t362 .nil) 363 Tryz.t363 (.node .nil 364 Tryz.t364 .nil)))) 365 Tryz.t365 (.node (.node (.node (.node (.node .nil 366 Tryz.t366 .nil) 367 Tryz.t367 .nil) 368 Tryz.t368 (.node .nil 369 Tryz.t369 .nil)) 370 Tryz.t370 (.node (.node .nil 371 Tryz.t371 .nil) 372 Tryz.t372 (.node .nil 373 Tryz.t373 .nil))) 374 Tryz.t374 (.node (.node (.node .nil 375 Tryz.t375 .nil) 376 Tryz.t376 (.node .nil 377 Tryz.t377 .nil)) 378 Tryz.t378 (.node (.node .nil 379 Tryz.t379 .nil) 380 Tryz.t380 (.node .nil 381 Tryz.t381 .nil))))) 382 Tryz.t382 (.node (.node (.node (.node (.node (.node .nil 383 Tryz.t383 .nil) 384 Tryz.t384 .nil) 385 Tryz.t385 (.node .nil 386 Tryz.t386 .nil)) 387 Tryz.t387 (.node (.node .nil 388 Tryz.t388 .nil) 389 Tryz.t389 (.node .nil 390 Tryz.t390 .nil))) 391 Tryz.t391 (.node (.node (.node .nil 392 Tryz.t392 .nil) 393 Tryz.t393 (.node .nil 394 Tryz.t394 .nil)) 395 Tryz.t395 (.node (.node .nil 396 Tryz.t396 .nil) 397 Tryz.t397 (.node .nil 398 Tryz.t398 .nil)))) 399 Tryz.t399 (.node (.node (.node (.node (.node .nil 400 Tryz.t400 .nil) 401 Tryz.t401 .nil) 402 Tryz.t402 (.node .nil 403 Tryz.t403 .nil)) 404 Tryz.t404 (.node (.node .nil 405 Tryz.t405 .nil) 406 Tryz.t406 (.node .nil 407 Tryz.t407 .nil))) 408 Tryz.t408 (.node (.node (.node .nil 409 Tryz.t409 .nil) 410 Tryz.t410 (.node .nil 411 Tryz.t411 .nil)) 412 Tryz.t412 (.node (.node .nil 413 Tryz.t413 .nil) 414 Tryz.t414 (.node .nil 415 Tryz.t415 .nil))))))) 416 Tryz.t416 (.node (.node (.node (.node (.node (.node (.node (.node .nil 417 Tryz.t417 .nil) 418 Tryz.t418 .nil) 419 Tryz.t419 (.node .nil 420 Tryz.t420 .nil)) 421 Tryz.t421 (.node (.node .nil 422 Tryz.t422 .nil) 423 Tryz.t423 (.node .nil 424 Tryz.t424 .nil))) 425 Tryz.t425 (.node (.node (.node (.node .nil 426 Tryz.t426 .nil) 427 Tryz.t427 .nil) 428 Tryz.t428 (.node .nil 429 Tryz.t429 .nil)) 430 Tryz.t430 (.node (.node .nil 431 Tryz.t431 .nil) 432 Tryz.t432 (.node .nil 433 Tryz.t433 .nil)))) 434 Tryz.t434 (.node (.node (.node (.node (.node .nil 435 Tryz.t435 .nil) 436 Tryz.t436 .nil) 437 Tryz.t437 (.node .nil 438 Tryz.t438 .nil)) 439 Tryz.t439 (.node (.node .nil 440 Tryz.t440 .nil) 441 Tryz.t441 (.node .nil 442 Tryz.t442 .nil))) 443 Tryz.t443 (.node (.node (.node .nil 444 Tryz.t444 .nil) 445 Tryz.t445 (.node .nil 446 Tryz.t446 .nil)) 447 Tryz.t447 (.node (.node .nil 448 Tryz.t448 .nil) 449 Tryz.t449 (.node .nil 450 Tryz.t450 .nil))))) 451 Tryz.t451 (.node (.node (.node (.node (.node (.node .nil 452 Tryz.t452 .nil) 453 Tryz.t453 .nil) 454 Tryz.t454 (.node .nil 455 Tryz.t455 .nil)) 456 Tryz.t456 (.node (.node .nil 457 Tryz.t457 .nil) 458 Tryz.t458 (.node .nil 459 Tryz.t459 .nil))) 460 Tryz.t460 (.node (.node (.node .nil 461 Tryz.t461 .nil) 462 Tryz.t462 (.node .nil 463 Tryz.t463 .nil)) 464 Tryz.t464 (.node (.node .nil 465 Tryz.t465 .nil) 466 Tryz.t466 (.node .nil 467 Tryz.t467 .nil)))) 468 Tryz.t468 (.node (.node (.node (.node (.node .nil 469 Tryz.t469 .nil) 470 Tryz.t470 .nil) 471 Tryz.t471 (.node .nil 472 Tryz.t472 .nil)) 473 Tryz.t473 (.node (.node .nil 474 Tryz.t474 .nil) 475 Tryz.t475 (.node .nil 476 Tryz.t476 .nil))) 477 Tryz.t477 (.node (.node (.node .nil 478 Tryz.t478 .nil) 479 Tryz.t479 (.node .nil 480 Tryz.t480 .nil)) 481 Tryz.t481 (.node (.node .nil 482 Tryz.t482 .nil) 483 Tryz.t483 (.node .nil 484 Tryz.t484 .nil)))))) 485 Tryz.t485 (.node (.node (.node (.node (.node (.node (.node .nil 486 Tryz.t486 .nil) 487 Tryz.t487 .nil) 488 Tryz.t488 (.node .nil 489 Tryz.t489 .nil)) 490 Tryz.t490 (.node (.node .nil 491 Tryz.t491 .nil) 492 Tryz.t492 (.node .nil 493 Tryz.t493 .nil))) 494 Tryz.t494 (.node (.node (.node (.node .nil 495 Tryz.t495 .nil) 496 Tryz.t496 .nil) 497 Tryz.t497 (.node .nil 498 Tryz.t498 .nil)) 499 Tryz.t499 (.node (.node .nil 500 Tryz.t500 .nil) 501 Tryz.t501 (.node .nil 502 Tryz.t502 .nil)))) 503 Tryz.t503 (.node (.node (.node (.node (.node .nil 504 Tryz.t504 .nil) 505 Tryz.t505 .nil) 506 Tryz.t506 (.node .nil 507 Tryz.t507 .nil)) 508 Tryz.t508 (.node (.node .nil 509 Tryz.t509 .nil) 510 Tryz.t510 (.node .nil 511 Tryz.t511 .nil))) 512 Tryz.t512 (.node (.node (.node .nil 513 Tryz.t513 .nil) 514 Tryz.t514 (.node .nil 515 Tryz.t515 .nil)) 516 Tryz.t516 (.node (.node .nil 517 Tryz.t517 .nil) 518 Tryz.t518 (.node .nil 519 Tryz.t519 .nil))))) 520 Tryz.t520 (.node (.node (.node (.node (.node (.node .nil 521 Tryz.t521 .nil) 522 Tryz.t522 .nil) 523 Tryz.t523 (.node .nil 524 Tryz.t524 .nil)) 525 Tryz.t525 (.node (.node .nil 526 Tryz.t526 .nil) 527 Tryz.t527 (.node .nil 528 Tryz.t528 .nil))) 529 Tryz.t529 (.node (.node (.node .nil 530 Tryz.t530 .nil) 531 Tryz.t531 (.node .nil 532 Tryz.t532 .nil)) 533 Tryz.t533 (.node (.node .nil 534 Tryz.t534 .nil) 535 Tryz.t535 (.node .nil 536 Tryz.t536 .nil)))) 537 Tryz.t537 (.node (.node (.node (.node (.node .nil 538 Tryz.t538 .nil) 539 Tryz.t539 .nil) 540 Tryz.t540 (.node .nil 541 Tryz.t541 .nil)) 542 Tryz.t542 (.node (.node .nil 543 Tryz.t543 .nil) 544 Tryz.t544 (.node .nil 545 Tryz.t545 .nil))) 546 Tryz.t546 (.node (.node (.node .nil 547 Tryz.t547 .nil) 548 Tryz.t548 (.node .nil 549 Tryz.t549 .nil)) 550 Tryz.t550 (.node (.node .nil 551 Tryz.t551 .nil) 552 Tryz.t552 (.node .nil 553 Tryz.t553 .nil)))))))))
noncomputable def FT:Tab Func:=(.node (.node (.node (.node (.node (.node (.node (.node (.node .nil 0 Tryz.f0 .nil) 1 Tryz.f1 (.node .nil 2 Tryz.f2 .nil)) 3 Tryz.f3 (.node (.node .nil 4 Tryz.f4 .nil) 5 Tryz.f5 .nil)) 6 Tryz.f6 (.node (.node (.node .nil 7 Tryz.f7 .nil) 8 Tryz.f8 (.node .nil 9 Tryz.f9 .nil)) 10 Tryz.f10 (.node (.node .nil 11 Tryz.f11 .nil) 12 Tryz.f12 .nil))) 13 Tryz.f13 (.node (.node (.node (.node .nil 14 Tryz.f14 .nil) 15 Tryz.f15 (.node .nil 16 Tryz.f16 .nil)) 17 Tryz.f17 (.node (.node .nil 18 Tryz.f18 .nil) 19 Tryz.f19 .nil)) 20 Tryz.f20 (.node (.node (.node .nil 21 Tryz.f21 .nil) 22 Tryz.f22 (.node .nil 23 Tryz.f23 .nil)) 24 Tryz.f24 (.node (.node .nil 25 Tryz.f25 .nil) 26 Tryz.f26 .nil)))) 27 Tryz.f27 (.node (.node (.node (.node (.node .nil 28 Tryz.f28 .nil) 29 Tryz.f29 (.node .nil 30 Tryz.f30 .nil)) 31 Tryz.f31 (.node (.node .nil 32 Tryz.f32 .nil) 33 Tryz.f33 .nil)) 34 Tryz.f34 (.node (.node (.node .nil 35 Tryz.f35 .nil) 36 Tryz.f36 (.node .nil 37 Tryz.f37 .nil)) 38 Tryz.f38 (.node (.node .nil 39 Tryz.f39 .nil) 40 Tryz.f40 .nil))) 41 Tryz.f41 (.node (.node (.node (.node .nil 42 Tryz.f42 .nil) 43 Tryz.f43 (.node .nil 44 Tryz.f44 .nil)) 45 Tryz.f45 (.node (.node .nil 46 Tryz.f46 .nil) 47 Tryz.f47 .nil)) 48 Tryz.f48 (.node (.node (.node .nil 49 Tryz.f49 .nil) 50 Tryz.f50 (.node .nil 51 Tryz.f51 .nil)) 52 Tryz.f52 (.node (.node .nil 53 Tryz.f53 .nil) 54 Tryz.f54 .nil))))) 55 Tryz.f55 (.node (.node (.node (.node (.node (.node .nil 56 Tryz.f56 .nil) 57 Tryz.f57 (.node .nil 58 Tryz.f58 .nil)) 59 Tryz.f59 (.node (.node .nil 60 Tryz.f60 .nil) 61 Tryz.f61 .nil)) 62 Tryz.f62 (.node (.node (.node .nil 63 Tryz.f63 .nil) 64 Tryz.f64 (.node .nil 65 Tryz.f65 .nil)) 66 Tryz.f66 (.node (.node .nil 67 Tryz.f67 .nil) 68 Tryz.f68 .nil))) 69 Tryz.f69 (.node (.node (.node (.node .nil 70 Tryz.f70 .nil) 71 Tryz.f71 (.node .nil 72 Tryz.f72 .nil)) 73 Tryz.f73 (.node (.node .nil 74 Tryz.f74 .nil) 75 Tryz.f75 .nil)) 76 Tryz.f76 (.node (.node (.node .nil 77 Tryz.f77 .nil) 78 Tryz.f78 (.node .nil 79 Tryz.f79 .nil)) 80 Tryz.f80 (.node (.node .nil 81 Tryz.f81 .nil) 82 Tryz.f82 .nil)))) 83 Tryz.f83 (.node (.node (.node (.node (.node .nil 84 Tryz.f84 .nil) 85 Tryz.f85 (.node .nil 86 Tryz.f86 .nil)) 87 Tryz.f87 (.node (.node .nil 88 Tryz.f88 .nil) 89 Tryz.f89 .nil)) 90 Tryz.f90 (.node (.node (.node .nil 91 Tryz.f91 .nil) 92 Tryz.f92 (.node .nil 93 Tryz.f93 .nil)) 94 Tryz.f94 (.node (.node .nil 95 Tryz.f95 .nil) 96 Tryz.f96 .nil))) 97 Tryz.f97 (.node (.node (.node (.node .nil 98 Tryz.f98 .nil) 99 Tryz.f99 (.node .nil 100 Tryz.f100 .nil)) 101 Tryz.f101 (.node (.node .nil 102 Tryz.f102 .nil) 103 Tryz.f103 .nil)) 104 Tryz.f104 (.node (.node (.node .nil 105 Tryz.f105 .nil) 106 Tryz.f106 .nil) 107 Tryz.f107 (.node (.node .nil 108 Tryz.f108 .nil) 109 Tryz.f109 .nil)))))) 110 Tryz.f110 (.node (.node (.node (.node (.node (.node (.node .nil 111 Tryz.f111 .nil) 112 Tryz.f112 (.node .nil 113 Tryz.f113 .nil)) 114 Tryz.f114 (.node (.node .nil 115 Tryz.f115 .nil) 116 Tryz.f116 .nil)) 117 Tryz.f117 (.node (.node (.node .nil 118 Tryz.f118 .nil) 119 Tryz.f119 (.node .nil 120 Tryz.f120 .nil)) 121 Tryz.f121 (.node (.node .nil 122 Tryz.f122 .nil) 123 Tryz.f123 .nil))) 124 Tryz.f124 (.node (.node (.node (.node .nil 125 Tryz.f125 .nil) 126 Tryz.f126 (.node .nil 127 Tryz.f127 .nil)) 128 Tryz.f128 (.node (.node .nil 129 Tryz.f129 .nil) 130 Tryz.f130 .nil)) 131 Tryz.f131 (.node (.node (.node .nil 132 Tryz.f132 .nil) 133 Tryz.f133 (.node .nil 134 Tryz.f134 .nil)) 135 Tryz.f135 (.node (.node .nil 136 Tryz.f136 .nil) 137 Tryz.f137 .nil)))) 138 Tryz.f138 (.node (.node (.node (.node (.node .nil 139 Tryz.f139 .nil) 140 Tryz.f140 (.node .nil 141 Tryz.f141 .nil)) 142 Tryz.f142 (.node (.node .nil 143 Tryz.f143 .nil) 144 Tryz.f144 .nil)) 145 Tryz.f145 (.node (.node (.node .nil 146 Tryz.f146 .nil) 147 Tryz.f147 (.node .nil 148 Tryz.f148 .nil)) 149 Tryz.f149 (.node (.node .nil 150 Tryz.f150 .nil) 151 Tryz.f151 .nil))) 152 Tryz.f152 (.node (.node (.node (.node .nil 153 Tryz.f153 .nil) 154 Tryz.f154 (.node .nil 155 Tryz.f155 .nil)) 156 Tryz.f156 (.node (.node .nil 157 Tryz.f157 .nil) 158 Tryz.f158 .nil)) 159 Tryz.f159 (.node (.node (.node .nil 160 Tryz.f160 .nil) 161 Tryz.f161 .nil) 162 Tryz.f162 (.node (.node .nil 163 Tryz.f163 .nil) 164 Tryz.f164 .nil))))) 165 Tryz.f165 (.node (.node (.node (.node (.node (.node .nil 166 Tryz.f166 .nil) 167 Tryz.f167 (.node .nil 168 Tryz.f168 .nil)) 169 Tryz.f169 (.node (.node .nil 170 Tryz.f170 .nil) 171 Tryz.f171 .nil)) 172 Tryz.f172 (.node (.node (.node .nil 173 Tryz.f173 .nil) 174 Tryz.f174 (.node .nil 175 Tryz.f175 .nil)) 176 Tryz.f176 (.node (.node .nil 177 Tryz.f177 .nil) 178 Tryz.f178 .nil))) 179 Tryz.f179 (.node (.node (.node (.node .nil 180 Tryz.f180 .nil) 181 Tryz.f181 (.node .nil 182 Tryz.f182 .nil)) 183 Tryz.f183 (.node (.node .nil 184 Tryz.f184 .nil) 185 Tryz.f185 .nil)) 186 Tryz.f186 (.node (.node (.node .nil 187 Tryz.f187 .nil) 188 Tryz.f188 (.node .nil 189 Tryz.f189 .nil)) 190 Tryz.f190 (.node (.node .nil 191 Tryz.f191 .nil) 192 Tryz.f192 .nil)))) 193 Tryz.f193 (.node (.node (.node (.node (.node .nil 194 Tryz.f194 .nil) 195 Tryz.f195 (.node .nil 196 Tryz.f196 .nil)) 197 Tryz.f197 (.node (.node .nil 198 Tryz.f198 .nil) 199 Tryz.f199 .nil)) 200 Tryz.f200 (.node (.node (.node .nil 201 Tryz.f201 .nil) 202 Tryz.f202 (.node .nil 203 Tryz.f203 .nil)) 204 Tryz.f204 (.node (.node .nil 205 Tryz.f205 .nil) 206 Tryz.f206 .nil))) 207 Tryz.f207 (.node (.node (.node (.node .nil 208 Tryz.f208 .nil) 209 Tryz.f209 (.node .nil 210 Tryz.f210 .nil)) 211 Tryz.f211 (.node (.node .nil 212 Tryz.f212 .nil) 213 Tryz.f213 .nil)) 214 Tryz.f214 (.node (.node (.node .nil 215 Tryz.f215 .nil) 216 Tryz.f216 .nil) 217 Tryz.f217 (.node (.node .nil 218 Tryz.f218 .nil) 219 Tryz.f219 .nil))))))) 220 Tryz.f220 (.node (.node (.node (.node (.node (.node (.node (.node .nil 221 Tryz.f221 .nil) 222 Tryz.f222 (.node .nil 223 Tryz.f223 .nil)) 224 Tryz.f224 (.node (.node .nil 225 Tryz.f225 .nil) 226 Tryz.f226 .nil)) 227 Tryz.f227 (.node (.node (.node .nil 228 Tryz.f228 .nil) 229 Tryz.f229 (.node .nil 230 Tryz.f230 .nil)) 231 Tryz.f231 (.node (.node .nil 232 Tryz.f232 .nil) 233 Tryz.f233 .nil))) 234 Tryz.f234 (.node (.node (.node (.node .nil 235 Tryz.f235 .nil) 236 Tryz.f236 (.node .nil 237 Tryz.f237 .nil)) 238 Tryz.f238 (.node (.node .nil 239 Tryz.f239 .nil) 240 Tryz.f240 .nil)) 241 Tryz.f241 (.node (.node (.node .nil 242 Tryz.f242 .nil) 243 Tryz.f243 (.node .nil 244 Tryz.f244 .nil)) 245 Tryz.f245 (.node (.node .nil 246 Tryz.f246 .nil) 247 Tryz.f247 .nil)))) 248 Tryz.f248 (.node (.node (.node (.node (.node .nil 249 Tryz.f249 .nil) 250 Tryz.f250 (.node .nil 251 Tryz.f251 .nil)) 252 Tryz.f252 (.node (.node .nil 253 Tryz.f253 .nil) 254 Tryz.f254 .nil)) 255 Tryz.f255 (.node (.node (.node .nil 256 Tryz.f256 .nil) 257 Tryz.f257 (.node .nil 258 Tryz.f258 .nil)) 259 Tryz.f259 (.node (.node .nil 260 Tryz.f260 .nil) 261 Tryz.f261 .nil))) 262 Tryz.f262 (.node (.node (.node (.node .nil 263 Tryz.f263 .nil) 264 Tryz.f264 (.node .nil 265 Tryz.f265 .nil)) 266 Tryz.f266 (.node (.node .nil 267 Tryz.f267 .nil) 268 Tryz.f268 .nil)) 269 Tryz.f269 (.node (.node (.node .nil 270 Tryz.f270 .nil) 271 Tryz.f271 .nil) 272 Tryz.f272 (.node (.node .nil 273 Tryz.f273 .nil) 274 Tryz.f274 .nil))))) 275 Tryz.f275 (.node (.node (.node (.node (.node (.node .nil 276 Tryz.f276 .nil) 277 Tryz.f277 (.node .nil 278 Tryz.f278 .nil)) 279 Tryz.f279 (.node (.node .nil 280 Tryz.f280 .nil) 281 Tryz.f281 .nil)) 282 Tryz.f282 (.node (.node (.node .nil 283 Tryz.f283 .nil) 284 Tryz.f284 (.node .nil 285 Tryz.f285 .nil)) 286 Tryz.f286 (.node (.node .nil 287 Tryz.f287 .nil) 288 Tryz.f288 .nil))) 289 Tryz.f289 (.node (.node (.node (.node .nil 290 Tryz.f290 .nil) 291 Tryz.f291 (.node .nil 292 Tryz.f292 .nil)) 293 Tryz.f293 (.node (.node .nil 294 Tryz.f294 .nil) 295 Tryz.f295 .nil)) 296 Tryz.f296 (.node (.node (.node .nil 297 Tryz.f297 .nil) 298 Tryz.f298 (.node .nil 299 Tryz.f299 .nil)) 300 Tryz.f300 (.node (.node .nil 301 Tryz.f301 .nil) 302 Tryz.f302 .nil)))) 303 Tryz.f303 (.node (.node (.node (.node (.node .nil 304 Tryz.f304 .nil) 305 Tryz.f305 (.node .nil 306 Tryz.f306 .nil)) 307 Tryz.f307 (.node (.node .nil 308 Tryz.f308 .nil) 309 Tryz.f309 .nil)) 310 Tryz.f310 (.node (.node (.node .nil 311 Tryz.f311 .nil) 312 Tryz.f312 (.node .nil 313 Tryz.f313 .nil)) 314 Tryz.f314 (.node (.node .nil 315 Tryz.f315 .nil) 316 Tryz.f316 .nil))) 317 Tryz.f317 (.node (.node (.node (.node .nil 318 Tryz.f318 .nil) 319 Tryz.f319 (.node .nil 320 Tryz.f320 .nil)) 321 Tryz.f321 (.node (.node .nil 322 Tryz.f322 .nil) 323 Tryz.f323 .nil)) 324 Tryz.f324 (.node (.node (.node .nil 325 Tryz.f325 .nil) 326 Tryz.f326 .nil) 327 Tryz.f327 (.node (.node .nil 328 Tryz.f328 .nil) 329 Tryz.f329 .nil)))))) 330 Tryz.f330 (.node (.node (.node (.node (.node (.node (.node .nil 331 Tryz.f331 .nil) 332 Tryz.f332 (.node .nil 333 Tryz.f333 .nil)) 334 Tryz.f334 (.node (.node .nil 335 Tryz.f335 .nil) 336 Tryz.f336 .nil)) 337 Tryz.f337 (.node (.node (.node .nil 338 Tryz.f338 .nil) 339 Tryz.f339 (.node .nil 340 Tryz.f340 .nil)) 341 Tryz.f341 (.node (.node .nil 342 Tryz.f342 .nil) 343 Tryz.f343 .nil))) 344 Tryz.f344 (.node (.node (.node (.node .nil 345 Tryz.f345 .nil) 346 Tryz.f346 (.node .nil 347 Tryz.f347 .nil)) 348 Tryz.f348 (.node (.node .nil 349 Tryz.f349 .nil) 350 Tryz.f350 .nil)) 351 Tryz.f351 (.node (.node (.node .nil 352 Tryz.f352 .nil) 353 Tryz.f353 (.node .nil 354 Tryz.f354 .nil)) 355 Tryz.f355 (.node (.node .nil 356 Tryz.f356 .nil) 357 Tryz.f357 .nil)))) 358 Tryz.f358 (.node (.node (.node (.node (.node .nil 359 Tryz.f359 .nil) 360 Tryz.f360 (.node .nil 361 Tryz.f361 .nil)) 362 Tryz.f362 (.node (.node .nil 363 Tryz.f363 .nil) 364 Tryz.f364 .nil)) 365 Tryz.f365 (.node (.node (.node .nil 366 Tryz.f366 .nil) 367 Tryz.f367 (.node .nil 368 Tryz.f368 .nil)) 369 Tryz.f369 (.node (.node .nil 370 Tryz.f370 .nil) 371 Tryz.f371 .nil))) 372 Tryz.f372 (.node (.node (.node (.node .nil 373 Tryz.f373 .nil) 374 Tryz.f374 (.node .nil 375 Tryz.f375 .nil)) 376 Tryz.f376 (.node (.node .nil 377 Tryz.f377 .nil) 378 Tryz.f378 .nil)) 379 Tryz.f379 (.node (.node (.node .nil 380 Tryz.f380 .nil) 381 Tryz.f381 .nil) 382 Tryz.f382 (.node (.node .nil 383 Tryz.f383 .nil) 384 Tryz.f384 .nil))))) 385 Tryz.f385 (.node (.node (.node (.node (.node (.node .nil 386 Tryz.f386 .nil) 387 Tryz.f387 (.node .nil 388 Tryz.f388 .nil)) 389 Tryz.f389 (.node (.node .nil 390 Tryz.f390 .nil) 391 Tryz.f391 .nil)) 392 Tryz.f392 (.node (.node (.node .nil 393 Tryz.f393 .nil) 394 Tryz.f394 (.node .nil 395 Tryz.f395 .nil)) 396 Tryz.f396 (.node (.node .nil 397 Tryz.f397 .nil) 398 Tryz.f398 .nil))) 399 Tryz.f399 (.node (.node (.node (.node .nil 400 Tryz.f400 .nil) 401 Tryz.f401 (.node .nil 402 Tryz.f402 .nil)) 403 Tryz.f403 (.node (.node .nil 404 Tryz.f404 .nil) 405 Tryz.f405 .nil)) 406 Tryz.f406 (.node (.node (.node .nil 407 Tryz.f407 .nil) 408 Tryz.f408 (.node .nil 409 Tryz.f409 .nil)) 410 Tryz.f410 (.node (.node .nil 411 Tryz.f411 .nil) 412 Tryz.f412 .nil)))) 413 Tryz.f413 (.node (.node (.node (.node (.node .nil 414 Tryz.f414 .nil) 415 Tryz.f415 (.node .nil 416 Tryz.f416 .nil)) 417 Tryz.f417 (.node (.node .nil 418 Tryz.f418 .nil) 419 Tryz.f419 .nil)) 420 Tryz.f420 (.node (.node (.node .nil 421 Tryz.f421 .nil) 422 Tryz.f422 (.node .nil 423 Tryz.f423 .nil)) 424 Tryz.f424 (.node (.node .nil 425 Tryz.f425 .nil) 426 Tryz.f426 .nil))) 427 Tryz.f427 (.node (.node (.node (.node .nil 428 Tryz.f428 .nil) 429 Tryz.f429 (.node .nil 430 Tryz.f430 .nil)) 431 Tryz.f431 (.node (.node .nil 432 Tryz.f432 .nil) 433 Tryz.f433 .nil)) 434 Tryz.f434 (.node (.node (.node .nil 435 Tryz.f435 .nil) 436 Tryz.f436 .nil) 437 Tryz.f437 (.node (.node .nil 438 Tryz.f438 .nil) 439 Tryz.f439 .nil))))))))
def KT:Tab (List (Nat×List Nat)):=(.node (.node (.node (.node (.node (.node (.node (.node .nil 3 [(0,[5,6,7,8,9,10]),(2,[6,9,11,14,15]),(4,[6,9,11,14,16])] .nil) 4 [(0,[2,14,15])] .nil) 5 [(0,[1,2,3,4,5,6,8,9])] (.node (.node .nil 6 [(1,[1,7,8,29,30])] .nil) 11 [(0,[2,8,9,10,36,37,38]),(2,[2,8,9,10,11,36,37,38,43,44,45])] .nil)) 12 [(0,[0,2,3,9,22,23,24]),(2,[3,9,14,50,51,52]),(4,[3,9,14,16,17,50,51,52,62,63])] (.node (.node (.node .nil 14 [(0,[1,6,7,8])] .nil) 15 [(0,[1,2,3,4]),(2,[1,2,3,5,6,7]),(4,[1,2,3,5,6,8]),(6,[1,2,3,5,6,9,10]),(8,[1,2,3,9,11]),(10,[1,2,3,9,12])] .nil) 16 [(1,[4,5,8,4600001])] (.node .nil 18 [(0,[3,7,8,24,25,26])] .nil))) 22 [(0,[3,6,7,8])] (.node (.node (.node (.node .nil 23 [(0,[1,17,18,19])] .nil) 28 [(0,[0,1,2,7,8])] .nil) 29 [(0,[1,2,5,6])] (.node .nil 30 [(0,[2,6,20,21,22]),(2,[2,6,20,21,22,29,30,31])] .nil)) 32 [(0,[2,6200000])] (.node (.node (.node .nil 34 [(0,[8,11,12,13,15,17,71,72,73]),(2,[8,11,12,13,15,17,18,71,72,73,78,79,80]),(4,[8,11,13,17,96,97,98])] .nil) 35 [(0,[0,1,12,13])] .nil) 36 [(0,[5,6,7,6600000])] (.node .nil 38 [(0,[1,2,17,18,19]),(2,[29,30,31]),(4,[29,30,31,35,36,37])] .nil)))) 39 [(0,[1,2,3,21,22]),(2,[1,2,3,40,41])] (.node (.node (.node (.node (.node .nil 40 [(0,[2,4,18,19,20])] .nil) 41 [(0,[2,3,4,8,38,39]),(2,[4,10,11,64,65,66])] .nil) 42 [(0,[7,8])] (.node .nil 44 [(0,[1,5,9,10,11])] .nil)) 47 [(0,[2,3,4,8,9,10])] (.node (.node (.node .nil 48 [(0,[5,14,15,16])] .nil) 49 [(0,[2,3,4,6,7,8,9,10,11,12])] .nil) 51 [(0,[5,15,16,17]),(2,[5,6,15,16,17,25,26])] (.node .nil 55 [(0,[0,1,12,13])] .nil))) 56 [(0,[1,2,3,9,10])] (.node (.node (.node (.node .nil 58 [(0,[0,25,26,27]),(2,[0,4,25,26,27,32,33,34])] .nil) 59 [(0,[5,6,8,68,69,70]),(2,[5,6,8,9,68,69,70,75,76,77])] .nil) 65 [(0,[1,5,6,7,29,30,31]),(2,[1,5,6,7,10,11]),(4,[1,5,6,7,10,11,12,76,77,78])] (.node .nil 71 [(1,[3,7,10100001])] .nil)) 74 [(0,[2,7,9,31,32])] (.node (.node (.node .nil 75 [(0,[2,3,10,11,12])] .nil) 78 [(0,[3,5,10800000]),(2,[3,5,6,7,25,26,27])] .nil) 81 [(0,[1,22,23,24])] (.node .nil 85 [(0,[5,32,33]),(2,[5,6,7,8,32,33])] .nil))))) 90 [(0,[0,10,11,12])] (.node (.node (.node (.node (.node (.node .nil 91 [(0,[0,6,43,44,45])] .nil) 92 [(0,[0,2,22,23,24]),(2,[0,2,4,22,23,24,28,29,30]),(4,[0,2,7,66,67])] .nil) 93 [(0,[1,3,6,9,23,24,25])] (.node (.node .nil 94 [(0,[1,3,4,29,30,31]),(2,[1,3,4,45,46,47]),(4,[1,3,4,9,61,62,63])] .nil) 97 [(0,[1,4,12,13,14]),(2,[1,4,12700002])] .nil)) 102 [(0,[0,1,7,8])] (.node (.node (.node .nil 106 [(0,[0,1,7,8])] .nil) 109 [(1,[1,36,37,38]),(3,[1,55,56,57])] .nil) 111 [(0,[3,4,18,19,20]),(2,[3,4,5,18,19,20,26,27,28]),(4,[3,51,52,53])] (.node .nil 112 [(0,[0,1,7,8]),(2,[0,1,22,23])] .nil))) 113 [(0,[0,1,7,8])] (.node (.node (.node (.node .nil 118 [(0,[0,3,9,10,11]),(2,[6,25,26,27])] .nil) 124 [(0,[0,1,2,11,12])] .nil) 127 [(0,[0,1,7,8])] (.node .nil 129 [(0,[7,40,41,42])] .nil)) 131 [(0,[2,21,22,23])] (.node (.node (.node .nil 132 [(0,[5,6,7,25,26,27]),(2,[5,133,134])] .nil) 134 [(0,[2,3,9,26,27,28]),(2,[2,3,9,10,11,26,27,28,33,34,35])] .nil) 135 [(0,[3,6,7,8])] (.node .nil 136 [(0,[7,8,9,10])] .nil)))) 142 [(0,[1,5,12,13,14,15,64,65,66]),(2,[12,13,14,15,87,88])] (.node (.node (.node (.node (.node .nil 143 [(0,[1,2,4,7,8,48,49,50]),(2,[2,4,7,8,11,12,65,66,67]),(4,[2,4,7,8,11,12,15,65,66,67,92,93,94]),(6,[2,4,8,11,12,116,117,118])] .nil) 144 [(0,[1,2,4,8,30,31]),(2,[1,2,4,8,11,52,53,54])] .nil) 147 [(0,[2,39,40,41])] (.node .nil 149 [(0,[0,1,3,14,15]),(2,[0,1,3,26,27,28]),(4,[0,1,3,5,6,26,27,28,34,35,36])] .nil)) 150 [(0,[2,5,6]),(2,[2,5,6,45,46,47])] (.node (.node (.node .nil 153 [(0,[0,1,5,16,17,18]),(2,[0,1,5,6,16,17,18,39,40]),(4,[0,5,66,67,68]),(6,[0,5,11,12,66,67,68])] .nil) 154 [(0,[4,5,8,9,27,28])] .nil) 155 [(0,[3,4,7,9,28,29,30]),(2,[3,4,7,9,40,41,42])] (.node .nil 157 [(0,[0,1,12,13])] .nil))) 158 [(0,[0,1,12,13])] (.node (.node (.node (.node .nil 159 [(0,[0,1,12,13])] .nil) 163 [(0,[3,8,9,10])] .nil) 168 [(0,[0,1,3])] (.node .nil 175 [(0,[4,6,21,22])] .nil)) 177 [(0,[0,8,10,64,65])] (.node (.node (.node .nil 178 [(0,[1,3,15,16,17]),(2,[1,3,4,5,15,16,17,23,24,25]),(4,[1,3,4,5,7,15,16,17,23,24,25,31,32]),(6,[1,3,52,53,54]),(8,[1,3,9,10,11,52,53,54])] .nil) 179 [(0,[0,1])] .nil) 183 [(1,[2,3,40,41,42]),(3,[3,56,57,58])] (.node .nil 184 [(1,[1,21,22,23]),(3,[1,7,21,22,23,27,28,29])] .nil)))))) 185 [(0,[0,5,14,15]),(2,[5,23,24,25]),(4,[5,7,23,24,25,30,31,32])] (.node (.node (.node (.node (.node (.node (.node .nil 186 [(0,[3,7,8,9])] .nil) 187 [(0,[0,4,7])] .nil) 188 [(0,[0,2,3])] (.node (.node .nil 189 [(0,[0,1,2,3,8,9])] .nil) 192 [(0,[1,2,4,7,8,9,10,25,26]),(2,[1,2,4,7,8,9,10,38,39]),(4,[1,2,4,7,8,9,10,13,14,15,38,39,61,62,63])] .nil)) 195 [(0,[1,2,7,19,20,21]),(2,[1,7,10,11,36,37]),(4,[1,7,10,11,12,13,36,37,43,44,45])] (.node (.node (.node .nil 196 [(0,[2,3,22,23,24]),(2,[2,3,39,40,41])] .nil) 197 [(0,[0,2,4])] .nil) 201 [(0,[1,6,7,38,39,40]),(2,[6,7,62,63]),(4,[6,7,11,62,63])] (.node .nil 202 [(1,[1,2,3,7,24,25]),(3,[1,2,48,49])] .nil))) 203 [(0,[4,9,10,40,41,42]),(2,[4,9,10,12,13,40,41,42,59,60,61])] (.node (.node (.node (.node .nil 204 [(0,[1,2,6,10,34,35])] .nil) 209 [(0,[0,3]),(2,[0,3,4,5])] .nil) 212 [(0,[2,3,4,5,11,26,27,28]),(2,[2,3,4,5,11,13,14,26,27,28,77,78,79])] (.node .nil 214 [(0,[0,3,4,5,41,42,43]),(2,[0,3,4,5,60,61,62]),(4,[0,4,5,12,89,90,91]),(6,[0,4,5,16,143,144,145]),(8,[0,4,16,162,163,164])] .nil)) 221 [(0,[0,1,7,8])] (.node (.node (.node .nil 223 [(0,[2,3,4,6,7,14,15])] .nil) 227 [(0,[2,3,7,18,19,20])] .nil) 234 [(0,[0,13])] (.node .nil 236 [(0,[7,29,30,31]),(2,[7,10,29,30,31,37,38,39])] .nil)))) 237 [(0,[3,4,11,12,13]),(2,[3,44,45])] (.node (.node (.node (.node (.node .nil 242 [(0,[0,1,2,6]),(2,[0,1,2,6,7])] .nil) 243 [(0,[0,6,7,8,9]),(2,[0,6,7,10])] .nil) 244 [(0,[0,1,6,7,8,9])] (.node .nil 246 [(0,[0,6,7])] .nil)) 247 [(0,[0,1,2,7,8]),(2,[0,1,2,7,8]),(4,[0,1,2,7,8,9]),(6,[0,1,2,7,8,10])] (.node (.node (.node .nil 249 [(0,[0,1,9,10]),(2,[0,1,9,10]),(4,[0,1,9,10])] .nil) 250 [(0,[0,1,10,11]),(2,[0,1,10,11]),(4,[0,1,10,11]),(6,[0,1,10,11]),(8,[0,1,10,11])] .nil) 253 [(0,[1,2,3,9,24,25]),(2,[1,2,9,11,12])] (.node .nil 255 [(0,[0,5,11,12,13])] .nil))) 256 [(0,[0,1,2,4,5,13,14])] (.node (.node (.node (.node .nil 259 [(0,[0,1,5,6])] .nil) 273 [(0,[2,3,10,11,12]),(2,[2,3,29,30,31])] .nil) 275 [(0,[1,2,3,12,13,14]),(2,[1,2,3,29,30,31])] (.node .nil 276 [(0,[1,2,7,13,14,15])] .nil)) 281 [(0,[0,1,2,3,8,9])] (.node (.node (.node .nil 290 [(0,[0,1,5,16,17,18])] .nil) 291 [(0,[0,1,5,11,12])] .nil) 294 [(0,[1,5,13,14,15])] (.node .nil 295 [(1,[4,6,51,52,53]),(3,[2,6,32500003])] .nil))))) 296 [(0,[0,1,2,6,7,8]),(2,[0,1,2,6]),(4,[0,1,2,6,7,8])] (.node (.node (.node (.node (.node (.node .nil 298 [(0,[29,30,31]),(2,[29,30,31,35,36,37])] .nil) 300 [(0,[0,1,2,66,67,68]),(2,[0,1,2,12,13,66,67,68,110,111,112]),(4,[0,1,2,12,13,66,67,68,131,132,133])] .nil) 301 [(0,[0,1,2,3]),(2,[0,2,3,14,15,51,52,53])] (.node (.node .nil 303 [(0,[0,2,3,8])] .nil) 308 [(0,[2,3,31,32,33]),(2,[3,47,48,49])] .nil)) 310 [(0,[1,2,3,4,8,9,10,11,34,35])] (.node (.node (.node .nil 312 [(0,[7,8])] .nil) 317 [(0,[0,1,7,8])] .nil) 322 [(0,[3,6,7,8])] (.node .nil 329 [(0,[0,1,2,6]),(2,[0,1,2,6,7])] .nil))) 330 [(0,[0,6,7,8,9]),(2,[0,6,7,10])] (.node (.node (.node (.node .nil 331 [(0,[0,1,6,7,8,9])] .nil) 333 [(0,[0,6,7])] .nil) 334 [(0,[0,1,2,7,8]),(2,[0,1,2,7,8]),(4,[0,1,2,7,8,9]),(6,[0,1,2,7,8,10])] (.node .nil 336 [(0,[0,1,9,10]),(2,[0,1,9,10]),(4,[0,1,9,10])] .nil)) 337 [(0,[0,1,10,11]),(2,[0,1,10,11]),(4,[0,1,10,11]),(6,[0,1,10,11]),(8,[0,1,10,11])] (.node (.node (.node .nil 342 [(9,[175]),(1,[0,7,8,9]),(3,[0,7,8,9,12]),(5,[0,7,8,9,14,15]),(7,[0,7,8,9,14,15,16])] .nil) 344 [(0,[3,9,10,11])] .nil) 345 [(0,[0,4,5,7,8,16,17,18])] (.node .nil 346 [(0,[0,4,5,6,9,10,11])] .nil)))) 349 [(0,[0,1,2,3,8]),(2,[0,1,2,3,8,9])] (.node (.node (.node (.node (.node .nil 350 [(0,[0,1,4,10,11]),(2,[0,10,13]),(4,[0,2,4,14,15]),(6,[0,14,17]),(8,[0,1,2,3,4,18,19,20,21,22])] .nil) 356 [(0,[0,2,7,14,15]),(2,[0,2,7,8,14,15,18,19,20])] .nil) 359 [(0,[1,2,3,6,7,25,26,27]),(2,[2,3,6,7,41,42,43]),(4,[3,6,7,57,58,59]),(6,[3,6,7,99,100,101]),(8,[3,6,7,114,115,116])] (.node .nil 361 [(0,[0,1,4,9,10])] .nil)) 364 [(0,[0,1,4])] (.node (.node (.node .nil 365 [(0,[0,1,3,4,10,11,12,13,14,15,16]),(2,[0,1,3,4,10,11,12,13,17])] .nil) 367 [(0,[1,2,7,11,12,13])] .nil) 372 [(0,[1,2,10])] (.node .nil 373 [(0,[0,2,3,8])] .nil))) 383 [(0,[0,1,2,4,6,10])] (.node (.node (.node (.node .nil 384 [(0,[0,2,4,10,11])] .nil) 386 [(0,[0,4,7,33,34,35])] .nil) 387 [(0,[1,2,3,7,16,17,18])] (.node .nil 398 [(0,[0,1,2,3,10])] .nil)) 399 [(0,[2,3,4,5,8,9,10])] (.node (.node (.node .nil 402 [(0,[2,3,7,8,9])] .nil) 403 [(0,[2,3,7,8,9])] .nil) 404 [(0,[2,3,7,8,9])] (.node .nil 409 [(0,[0,1,7,8])] .nil)))))))
def EQ:Tab Bool:=(.node (.node (.node (.node (.node (.node (.node .nil 2 true .nil) 3 true (.node .nil 4 true .nil)) 5 true (.node (.node .nil 6 true .nil) 7 true .nil)) 8 true (.node (.node (.node .nil 9 true .nil) 10 true .nil) 11 true (.node (.node .nil 12 true .nil) 15 true .nil))) 16 true (.node (.node (.node (.node .nil 17 true .nil) 20 true .nil) 21 true (.node (.node .nil 22 true .nil) 23 true .nil)) 28 true (.node (.node (.node .nil 40 true .nil) 41 true .nil) 42 true (.node (.node .nil 51 true .nil) 58 true .nil)))) 75 true (.node (.node (.node (.node (.node .nil 93 true .nil) 101 true .nil) 133 true (.node (.node .nil 134 true .nil) 135 true .nil)) 145 true (.node (.node (.node .nil 146 true .nil) 147 true .nil) 148 true (.node (.node .nil 150 true .nil) 159 true .nil))) 160 true (.node (.node (.node (.node .nil 161 true .nil) 168 true .nil) 176 true (.node (.node .nil 179 true .nil) 187 true .nil)) 188 true (.node (.node (.node .nil 194 true .nil) 198 true .nil) 203 true (.node (.node .nil 208 true .nil) 216 true .nil))))) 217 true (.node (.node (.node (.node (.node (.node .nil 251 true .nil) 258 true (.node .nil 262 true .nil)) 265 true (.node (.node .nil 277 true .nil) 278 true .nil)) 286 true (.node (.node (.node .nil 287 true .nil) 288 true .nil) 289 true (.node (.node .nil 290 true .nil) 300 true .nil))) 317 true (.node (.node (.node (.node .nil 318 true .nil) 319 true .nil) 325 true (.node (.node .nil 326 true .nil) 347 true .nil)) 367 true (.node (.node (.node .nil 381 true .nil) 391 true .nil) 396 true (.node (.node .nil 397 true .nil) 402 true .nil)))) 438 true (.node (.node (.node (.node (.node .nil 441 true .nil) 442 true .nil) 456 true (.node (.node .nil 460 true .nil) 470 true .nil)) 487 true (.node (.node (.node .nil 488 true .nil) 495 true .nil) 497 true (.node (.node .nil 498 true .nil) 505 true .nil))) 524 true (.node (.node (.node (.node .nil 525 true .nil) 532 true .nil) 534 true (.node (.node .nil 535 true .nil) 539 true .nil)) 543 true (.node (.node (.node .nil 544 true .nil) 546 true .nil) 547 true (.node (.node .nil 548 true .nil) 552 true .nil))))))
def GT(g:Nat):Option (List AV):=bif Nat.beq g 6 then some (intCells .u64 [0,1,1,0,0,0,1,1])else bif Nat.beq g 3 then some (intCells .i64 [1,1])else bif Nat.beq g 2 then some (intCells .i64 [1073741824,1073741824])else bif Nat.beq g 1 then some (intCells .i64 [0,0,0,0,0,0,1,1,1,1,2,16,2,16,2,16,2,16,2,16,2,16,3,3,2,2,1,16,1,1,0,0])else none
noncomputable def L:Laid:={ P:=Tryz.prog,T:=TT,F:=FT,keep:=KT,eqs:=EQ,G:=GT,thaw:=λg=>decide (g=97∨g=149∨g=213∨g=286∨g=115∨g=167∨g=186∨g=152∨g=210∨g=42∨g=299∨g=211∨g=203∨g=282∨g=160∨g=283∨g=214∨g=90∨g=91∨g=92∨g=312∨g=263∨g=313∨g=199∨g=197∨g=67∨g=17∨g=63∨g=54∨g=56),ro:=λg=>decide (g=289∨g=290∨g=179∨g=64),ext:=λf=>Nat.beq f 328,lend:=λg=>decide (g=231∨g=232∨g=299∨g=17),raw:=λg=>decide (g=129∨g=235∨g=237∨g=178∨g=254∨g=196) }
theorem typesAt:∀i x,TT.get i=some x→Tryz.prog.types[i]?=some x:=get_of_tab (n:=554) (l:=Tryz.types.toList) (by kernel_rfl) (by kernel_rfl)
theorem funcsAt:∀i x,FT.get i=some x→Tryz.prog.funcs[i]?=some x:=get_of_tab (n:=440) (l:=Tryz.funcs.toList) (by kernel_rfl) (by kernel_rfl)
theorem laidOk:LaidOk L:={
 types:=typesAt
 funcs:=funcsAt
 shape:=by kernel_rfl
 names:=by kernel_rfl
 eqs:=by kernel_rfl
 ext:=λf h=>by
  have h:Nat.beq f 328=true:=h;have:f=328:=by simpa using h
  subst this;exact⟨Tryz.f328,by kernel_rfl,by kernel_rfl,by kernel_rfl,by kernel_rfl,by kernel_rfl⟩
 mixed:=by kernel_rfl
 draws:=by kernel_rfl
 yid:=by kernel_rfl
 rf:=by kernel_rfl}
theorem ok:EnvOk L.env:=laidOk.envOk
theorem dr:DrOk L.env:=laidOk.drawn
@[go_sem] theorem glob_1:L.env.G 1=some (intCells .i64 [0,0,0,0,0,0,1,1,1,1,2,16,2,16,2,16,2,16,2,16,2,16,3,3,2,2,1,16,1,1,0,0]):=by kernel_rfl
attribute [go_sem] intCells
end Go.FInst
/- Type facts (printed by AxTypes). -/
namespace Go.FInst
open Go.Proofs Go.Ax
@[go_sem] theorem roF(g:FuncId):L.env.ro g=decide (g=289∨g=290∨g=179∨g=64):=by rfl
@[go_sem] theorem thawF(g:FuncId):L.env.thaw g=decide (g=97∨g=149∨g=213∨g=286∨g=115∨g=167∨g=186∨g=152∨g=210∨g=42∨g=299∨g=211∨g=203∨g=282∨g=160∨g=283∨g=214∨g=90∨g=91∨g=92∨g=312∨g=263∨g=313∨g=199∨g=197∨g=67∨g=17∨g=63∨g=54∨g=56):=by rfl
@[go_sem] theorem kp4_0:L.env.keep 4 0=[2,14,15]:=by kernel_rfl
@[go_sem] theorem kp6_1:L.env.keep 6 1=[1,7,8,29,30]:=by kernel_rfl
@[go_sem] theorem kp15_0:L.env.keep 15 0=[1,2,3,4]:=by kernel_rfl
@[go_sem] theorem kp15_2:L.env.keep 15 2=[1,2,3,5,6,7]:=by kernel_rfl
@[go_sem] theorem kp15_4:L.env.keep 15 4=[1,2,3,5,6,8]:=by kernel_rfl
@[go_sem] theorem kp15_6:L.env.keep 15 6=[1,2,3,5,6,9,10]:=by kernel_rfl
@[go_sem] theorem kp15_8:L.env.keep 15 8=[1,2,3,9,11]:=by kernel_rfl
@[go_sem] theorem kp15_10:L.env.keep 15 10=[1,2,3,9,12]:=by kernel_rfl
@[go_sem] theorem kp16_1:L.env.keep 16 1=[4,5,8,4600001]:=by kernel_rfl
@[go_sem] theorem kp18_0:L.env.keep 18 0=[3,7,8,24,25,26]:=by kernel_rfl
@[go_sem] theorem kp30_0:L.env.keep 30 0=[2,6,20,21,22]:=by kernel_rfl
@[go_sem] theorem kp44_0:L.env.keep 44 0=[1,5,9,10,11]:=by kernel_rfl
@[go_sem] theorem kp49_0:L.env.keep 49 0=[2,3,4,6,7,8,9,10,11,12]:=by kernel_rfl
@[go_sem] theorem kp51_0:L.env.keep 51 0=[5,15,16,17]:=by kernel_rfl
@[go_sem] theorem kp51_2:L.env.keep 51 2=[5,6,15,16,17,25,26]:=by kernel_rfl
@[go_sem] theorem kp58_0:L.env.keep 58 0=[0,25,26,27]:=by kernel_rfl
@[go_sem] theorem kp65_0:L.env.keep 65 0=[1,5,6,7,29,30,31]:=by kernel_rfl
@[go_sem] theorem kp65_2:L.env.keep 65 2=[1,5,6,7,10,11]:=by kernel_rfl
@[go_sem] theorem kp65_4:L.env.keep 65 4=[1,5,6,7,10,11,12,76,77,78]:=by kernel_rfl
@[go_sem] theorem kp97_0:L.env.keep 97 0=[1,4,12,13,14]:=by kernel_rfl
@[go_sem] theorem kp102_0:L.env.keep 102 0=[0,1,7,8]:=by kernel_rfl
@[go_sem] theorem kp109_1:L.env.keep 109 1=[1,36,37,38]:=by kernel_rfl
@[go_sem] theorem kp109_3:L.env.keep 109 3=[1,55,56,57]:=by kernel_rfl
@[go_sem] theorem kp111_0:L.env.keep 111 0=[3,4,18,19,20]:=by kernel_rfl
@[go_sem] theorem kp111_2:L.env.keep 111 2=[3,4,5,18,19,20,26,27,28]:=by kernel_rfl
@[go_sem] theorem kp111_4:L.env.keep 111 4=[3,51,52,53]:=by kernel_rfl
@[go_sem] theorem kp127_0:L.env.keep 127 0=[0,1,7,8]:=by kernel_rfl
@[go_sem] theorem kp131_0:L.env.keep 131 0=[2,21,22,23]:=by kernel_rfl
@[go_sem] theorem kp132_0:L.env.keep 132 0=[5,6,7,25,26,27]:=by kernel_rfl
@[go_sem] theorem kp132_2:L.env.keep 132 2=[5,133,134]:=by kernel_rfl
@[go_sem] theorem kp163_0:L.env.keep 163 0=[3,8,9,10]:=by kernel_rfl
@[go_sem] theorem kp178_0:L.env.keep 178 0=[1,3,15,16,17]:=by kernel_rfl
@[go_sem] theorem kp178_2:L.env.keep 178 2=[1,3,4,5,15,16,17,23,24,25]:=by kernel_rfl
@[go_sem] theorem kp178_4:L.env.keep 178 4=[1,3,4,5,7,15,16,17,23,24,25,31,32]:=by kernel_rfl
@[go_sem] theorem kp178_6:L.env.keep 178 6=[1,3,52,53,54]:=by kernel_rfl
@[go_sem] theorem kp178_8:L.env.keep 178 8=[1,3,9,10,11,52,53,54]:=by kernel_rfl
@[go_sem] theorem kp179_0:L.env.keep 179 0=[0,1]:=by kernel_rfl
@[go_sem] theorem kp221_0:L.env.keep 221 0=[0,1,7,8]:=by kernel_rfl
@[go_sem] theorem kp237_0:L.env.keep 237 0=[3,4,11,12,13]:=by kernel_rfl
@[go_sem] theorem kp237_2:L.env.keep 237 2=[3,44,45]:=by kernel_rfl
@[go_sem] theorem by3:L.env.bytes 3=8:=by kernel_rfl
@[go_sem] theorem by9:L.env.bytes 9=16:=by kernel_rfl
@[go_sem] theorem by37:L.env.bytes 37=24:=by kernel_rfl
@[go_sem] theorem by131:L.env.bytes 131=48:=by kernel_rfl
@[go_sem] theorem by139:L.env.bytes 139=24:=by kernel_rfl
@[go_sem] theorem by146:L.env.bytes 146=16:=by kernel_rfl
@[go_sem] theorem by148:L.env.bytes 148=40:=by kernel_rfl
@[go_sem] theorem by160:L.env.bytes 160=16:=by kernel_rfl
@[go_sem] theorem is3:isT L.env 3=true:=by kernel_rfl
@[go_sem] theorem sz3:L.env.sz 3=1:=by kernel_rfl
@[go_sem] theorem ag3:aggT L.env 3=some false:=by kernel_rfl
@[go_sem] theorem in3:intT L.env 3=some .i64:=by kernel_rfl
@[go_sem] theorem ze3:L.env.zero 3=some [.int .i64 0]:=by kernel_rfl
@[go_sem] theorem is4:isT L.env 4=true:=by kernel_rfl
@[go_sem] theorem sz4:L.env.sz 4=1:=by kernel_rfl
@[go_sem] theorem ag4:aggT L.env 4=some false:=by kernel_rfl
@[go_sem] theorem un4:L.env.und 4=some .bool:=by kernel_rfl
@[go_sem] theorem is5:isT L.env 5=true:=by kernel_rfl
@[go_sem] theorem sz5:L.env.sz 5=1:=by kernel_rfl
@[go_sem] theorem ag5:aggT L.env 5=some false:=by kernel_rfl
@[go_sem] theorem in5:intT L.env 5=some .u8:=by kernel_rfl
@[go_sem] theorem ze5:L.env.zero 5=some [.int .u8 0]:=by kernel_rfl
@[go_sem] theorem is9:isT L.env 9=true:=by kernel_rfl
@[go_sem] theorem sz9:L.env.sz 9=1:=by kernel_rfl
@[go_sem] theorem ag9:aggT L.env 9=some false:=by kernel_rfl
@[go_sem] theorem ze9:L.env.zero 9=some [.str []]:=by kernel_rfl
@[go_sem] theorem is22:isT L.env 22=true:=by kernel_rfl
@[go_sem] theorem ar22:arrT L.env 22=some (2,5):=by kernel_rfl
@[go_sem] theorem is23:isT L.env 23=true:=by kernel_rfl
@[go_sem] theorem ar23:arrT L.env 23=some (4,5):=by kernel_rfl
@[go_sem] theorem is24:isT L.env 24=true:=by kernel_rfl
@[go_sem] theorem sz24:L.env.sz 24=1:=by kernel_rfl
@[go_sem] theorem ag24:aggT L.env 24=some false:=by kernel_rfl
@[go_sem] theorem st24:slT L.env 24=some 135:=by kernel_rfl
@[go_sem] theorem is25:isT L.env 25=true:=by kernel_rfl
@[go_sem] theorem sz25:L.env.sz 25=1:=by kernel_rfl
@[go_sem] theorem ag25:aggT L.env 25=some false:=by kernel_rfl
@[go_sem] theorem st25:slT L.env 25=some 5:=by kernel_rfl
@[go_sem] theorem bs25:byT L.env 25 9=true:=by kernel_rfl
@[go_sem] theorem sz27:L.env.sz 27=12:=by kernel_rfl
@[go_sem] theorem ag27:aggT L.env 27=some true:=by kernel_rfl
theorem ft27:fieldsT L.env 27=some [5,5,22,4,4,23,24,25]:=by kernel_rfl
@[go_sem] theorem fl27_0:fldT L.env 27 0=some (0,5):=by kernel_rfl
@[go_sem] theorem fl27_1:fldT L.env 27 1=some (1,5):=by kernel_rfl
@[go_sem] theorem fl27_2:fldT L.env 27 2=some (2,22):=by kernel_rfl
@[go_sem] theorem fl27_3:fldT L.env 27 3=some (4,4):=by kernel_rfl
@[go_sem] theorem fl27_4:fldT L.env 27 4=some (5,4):=by kernel_rfl
@[go_sem] theorem fl27_5:fldT L.env 27 5=some (6,23):=by kernel_rfl
@[go_sem] theorem fl27_6:fldT L.env 27 6=some (10,24):=by kernel_rfl
@[go_sem] theorem fl27_7:fldT L.env 27 7=some (11,25):=by kernel_rfl
@[go_sem] theorem is34:isT L.env 34=true:=by kernel_rfl
@[go_sem] theorem sz34:L.env.sz 34=1:=by kernel_rfl
@[go_sem] theorem ag34:aggT L.env 34=some false:=by kernel_rfl
@[go_sem] theorem st34:slT L.env 34=some 131:=by kernel_rfl
@[go_sem] theorem ap34:apT L.env 34 34=some 131:=by kernel_rfl
@[go_sem] theorem rm34{k:Nat}(h:(k≤1000000000)=True):roomOk L.env 131 k=true:=room_ok (of_eq_true h) (by rw[by131];decide)
@[go_sem] theorem is35:isT L.env 35=true:=by kernel_rfl
@[go_sem] theorem sz35:L.env.sz 35=1:=by kernel_rfl
@[go_sem] theorem ag35:aggT L.env 35=some false:=by kernel_rfl
@[go_sem] theorem st35:slT L.env 35=some 9:=by kernel_rfl
@[go_sem] theorem ap35:apT L.env 35 35=some 9:=by kernel_rfl
@[go_sem] theorem rm35{k:Nat}(h:(k≤1000000000)=True):roomOk L.env 9 k=true:=room_ok (of_eq_true h) (by rw[by9];decide)
@[go_sem] theorem is36:isT L.env 36=true:=by kernel_rfl
@[go_sem] theorem sz36:L.env.sz 36=1:=by kernel_rfl
@[go_sem] theorem ag36:aggT L.env 36=some false:=by kernel_rfl
@[go_sem] theorem st36:slT L.env 36=some 137:=by kernel_rfl
@[go_sem] theorem is37:isT L.env 37=true:=by kernel_rfl
@[go_sem] theorem sz37:L.env.sz 37=1:=by kernel_rfl
@[go_sem] theorem ag37:aggT L.env 37=some false:=by kernel_rfl
@[go_sem] theorem st37:slT L.env 37=some 3:=by kernel_rfl
@[go_sem] theorem ap37:apT L.env 37 37=some 3:=by kernel_rfl
@[go_sem] theorem rm37{k:Nat}(h:(k≤1000000000)=True):roomOk L.env 3 k=true:=room_ok (of_eq_true h) (by rw[by3];decide)
@[go_sem] theorem mk37{k:Nat}(h:(k≤1000000000)=True):mkOk L.env 3 (k:Int) (k:Int)=true:=mkOk_nat (of_eq_true h) (by rw[by3];decide)
@[go_sem] theorem ze37:L.env.zero 37=some [.nilslice]:=by kernel_rfl
@[go_sem] theorem is39:isT L.env 39=true:=by kernel_rfl
@[go_sem] theorem sz39:L.env.sz 39=4:=by kernel_rfl
@[go_sem] theorem ag39:aggT L.env 39=some true:=by kernel_rfl
@[go_sem] theorem fl39_0:fldT L.env 39 0=some (0,34):=by kernel_rfl
@[go_sem] theorem fl39_1:fldT L.env 39 1=some (1,35):=by kernel_rfl
@[go_sem] theorem fl39_2:fldT L.env 39 2=some (2,36):=by kernel_rfl
@[go_sem] theorem fl39_3:fldT L.env 39 3=some (3,37):=by kernel_rfl
@[go_sem] theorem ze39:L.env.zero 39=some [.nilslice,.nilslice,.nilslice,.nilslice]:=by kernel_rfl
@[go_sem] theorem is40:isT L.env 40=true:=by kernel_rfl
@[go_sem] theorem sz40:L.env.sz 40=1:=by kernel_rfl
@[go_sem] theorem ag40:aggT L.env 40=some false:=by kernel_rfl
@[go_sem] theorem sz47:L.env.sz 47=7:=by kernel_rfl
@[go_sem] theorem ag47:aggT L.env 47=some true:=by kernel_rfl
@[go_sem] theorem bl47:bldT L.env 47=true:=by kernel_rfl
@[go_sem] theorem fl47_0:fldT L.env 47 0=some (0,3):=by kernel_rfl
@[go_sem] theorem pl47_0:plcT L.env 47 0=some (0,1):=by kernel_rfl
@[go_sem] theorem ze47:L.env.zero 47=some [.int .i64 0,.int .i64 0,.bool false,.int .i64 0,.int .u64 0,.nilslice,.int .i64 0]:=by kernel_rfl
@[go_sem] theorem is50:isT L.env 50=true:=by kernel_rfl
@[go_sem] theorem sz50:L.env.sz 50=1:=by kernel_rfl
@[go_sem] theorem ag50:aggT L.env 50=some false:=by kernel_rfl
@[go_sem] theorem st50:slT L.env 50=some 37:=by kernel_rfl
@[go_sem] theorem ap50:apT L.env 50 50=some 37:=by kernel_rfl
@[go_sem] theorem rm50{k:Nat}(h:(k≤1000000000)=True):roomOk L.env 37 k=true:=room_ok (of_eq_true h) (by rw[by37];decide)
@[go_sem] theorem is51:isT L.env 51=true:=by kernel_rfl
@[go_sem] theorem sz51:L.env.sz 51=1:=by kernel_rfl
@[go_sem] theorem ag51:aggT L.env 51=some false:=by kernel_rfl
@[go_sem] theorem ze51:L.env.zero 51=some [.int .i64 0]:=by kernel_rfl
@[go_sem] theorem is58:isT L.env 58=true:=by kernel_rfl
@[go_sem] theorem sz58:L.env.sz 58=1:=by kernel_rfl
@[go_sem] theorem ag58:aggT L.env 58=some false:=by kernel_rfl
@[go_sem] theorem is72:isT L.env 72=true:=by kernel_rfl
@[go_sem] theorem sz72:L.env.sz 72=1:=by kernel_rfl
@[go_sem] theorem ag72:aggT L.env 72=some false:=by kernel_rfl
@[go_sem] theorem st72:slT L.env 72=some 148:=by kernel_rfl
@[go_sem] theorem ap72:apT L.env 72 72=some 148:=by kernel_rfl
@[go_sem] theorem rm72{k:Nat}(h:(k≤1000000000)=True):roomOk L.env 148 k=true:=room_ok (of_eq_true h) (by rw[by148];decide)
@[go_sem] theorem ze72:L.env.zero 72=some [.nilslice]:=by kernel_rfl
@[go_sem] theorem sz75:L.env.sz 75=1:=by kernel_rfl
@[go_sem] theorem ag75:aggT L.env 75=some false:=by kernel_rfl
@[go_sem] theorem is76:isT L.env 76=true:=by kernel_rfl
@[go_sem] theorem sz76:L.env.sz 76=1:=by kernel_rfl
@[go_sem] theorem ag76:aggT L.env 76=some false:=by kernel_rfl
@[go_sem] theorem st76:slT L.env 76=some 160:=by kernel_rfl
@[go_sem] theorem ap76:apT L.env 76 76=some 160:=by kernel_rfl
@[go_sem] theorem rm76{k:Nat}(h:(k≤1000000000)=True):roomOk L.env 160 k=true:=room_ok (of_eq_true h) (by rw[by160];decide)
@[go_sem] theorem is87:isT L.env 87=true:=by kernel_rfl
@[go_sem] theorem sz87:L.env.sz 87=7:=by kernel_rfl
@[go_sem] theorem ag87:aggT L.env 87=some true:=by kernel_rfl
@[go_sem] theorem bl87:bldT L.env 87=true:=by kernel_rfl
@[go_sem] theorem fl87_0:fldT L.env 87 0=some (0,50):=by kernel_rfl
@[go_sem] theorem fl87_1:fldT L.env 87 1=some (1,72):=by kernel_rfl
@[go_sem] theorem ze87:L.env.zero 87=some [.nilslice,.nilslice,.nilslice,.nilslice,.nilslice,.nilslice,.nilslice]:=by kernel_rfl
@[go_sem] theorem us91:usetT L.env 91=false:=by kernel_rfl
@[go_sem] theorem is93:isT L.env 93=true:=by kernel_rfl
@[go_sem] theorem in93:intT L.env 93=some .u8:=by kernel_rfl
@[go_sem] theorem is101:isT L.env 101=true:=by kernel_rfl
@[go_sem] theorem sz101:L.env.sz 101=1:=by kernel_rfl
@[go_sem] theorem ag101:aggT L.env 101=some false:=by kernel_rfl
@[go_sem] theorem in101:intT L.env 101=some .u8:=by kernel_rfl
@[go_sem] theorem ze101:L.env.zero 101=some [.int .u8 0]:=by kernel_rfl
@[go_sem] theorem is131:isT L.env 131=true:=by kernel_rfl
@[go_sem] theorem sz131:L.env.sz 131=4:=by kernel_rfl
@[go_sem] theorem ag131:aggT L.env 131=some true:=by kernel_rfl
@[go_sem] theorem bl131:bldT L.env 131=true:=by kernel_rfl
@[go_sem] theorem fl131_0:fldT L.env 131 0=some (0,101):=by kernel_rfl
@[go_sem] theorem pl131_0:plcT L.env 131 0=some (0,1):=by kernel_rfl
@[go_sem] theorem fl131_1:fldT L.env 131 1=some (1,37):=by kernel_rfl
@[go_sem] theorem pl131_1:plcT L.env 131 1=some (1,1):=by kernel_rfl
@[go_sem] theorem fl131_2:fldT L.env 131 2=some (2,3):=by kernel_rfl
@[go_sem] theorem fl131_3:fldT L.env 131 3=some (3,3):=by kernel_rfl
@[go_sem] theorem pl131_3:plcT L.env 131 3=some (3,1):=by kernel_rfl
@[go_sem] theorem ze131:L.env.zero 131=some [.int .u8 0,.nilslice,.int .i64 0,.int .i64 0]:=by kernel_rfl
@[go_sem] theorem is133:isT L.env 133=true:=by kernel_rfl
@[go_sem] theorem ar133:arrT L.env 133=some (3,5):=by kernel_rfl
@[go_sem] theorem is135:isT L.env 135=true:=by kernel_rfl
@[go_sem] theorem sz135:L.env.sz 135=4:=by kernel_rfl
@[go_sem] theorem ag135:aggT L.env 135=some true:=by kernel_rfl
theorem ft135:fieldsT L.env 135=some [5,133]:=by kernel_rfl
@[go_sem] theorem fl135_0:fldT L.env 135 0=some (0,5):=by kernel_rfl
@[go_sem] theorem fl135_1:fldT L.env 135 1=some (1,133):=by kernel_rfl
@[go_sem] theorem is137:isT L.env 137=true:=by kernel_rfl
@[go_sem] theorem sz137:L.env.sz 137=3:=by kernel_rfl
@[go_sem] theorem ag137:aggT L.env 137=some true:=by kernel_rfl
@[go_sem] theorem bl137:bldT L.env 137=true:=by kernel_rfl
@[go_sem] theorem fl137_0:fldT L.env 137 0=some (0,37):=by kernel_rfl
@[go_sem] theorem pl137_0:plcT L.env 137 0=some (0,1):=by kernel_rfl
@[go_sem] theorem fl137_1:fldT L.env 137 1=some (1,37):=by kernel_rfl
@[go_sem] theorem pl137_1:plcT L.env 137 1=some (1,1):=by kernel_rfl
@[go_sem] theorem fl137_2:fldT L.env 137 2=some (2,3):=by kernel_rfl
@[go_sem] theorem pl137_2:plcT L.env 137 2=some (2,1):=by kernel_rfl
@[go_sem] theorem ze137:L.env.zero 137=some [.nilslice,.nilslice,.int .i64 0]:=by kernel_rfl
@[go_sem] theorem is139:isT L.env 139=true:=by kernel_rfl
@[go_sem] theorem sz139:L.env.sz 139=1:=by kernel_rfl
@[go_sem] theorem ag139:aggT L.env 139=some false:=by kernel_rfl
@[go_sem] theorem st139:slT L.env 139=some 146:=by kernel_rfl
@[go_sem] theorem ap139:apT L.env 139 139=some 146:=by kernel_rfl
@[go_sem] theorem rm139{k:Nat}(h:(k≤1000000000)=True):roomOk L.env 146 k=true:=room_ok (of_eq_true h) (by rw[by146];decide)
@[go_sem] theorem ze139:L.env.zero 139=some [.nilslice]:=by kernel_rfl
@[go_sem] theorem is146:isT L.env 146=true:=by kernel_rfl
@[go_sem] theorem sz146:L.env.sz 146=2:=by kernel_rfl
@[go_sem] theorem ag146:aggT L.env 146=some true:=by kernel_rfl
@[go_sem] theorem bl146:bldT L.env 146=true:=by kernel_rfl
@[go_sem] theorem fl146_0:fldT L.env 146 0=some (0,3):=by kernel_rfl
@[go_sem] theorem pl146_0:plcT L.env 146 0=some (0,1):=by kernel_rfl
@[go_sem] theorem fl146_1:fldT L.env 146 1=some (1,3):=by kernel_rfl
@[go_sem] theorem pl146_1:plcT L.env 146 1=some (1,1):=by kernel_rfl
@[go_sem] theorem ze146:L.env.zero 146=some [.int .i64 0,.int .i64 0]:=by kernel_rfl
@[go_sem] theorem is148:isT L.env 148=true:=by kernel_rfl
@[go_sem] theorem sz148:L.env.sz 148=5:=by kernel_rfl
@[go_sem] theorem ag148:aggT L.env 148=some true:=by kernel_rfl
@[go_sem] theorem bl148:bldT L.env 148=true:=by kernel_rfl
@[go_sem] theorem pl148_0:plcT L.env 148 0=some (0,1):=by kernel_rfl
@[go_sem] theorem pl148_1:plcT L.env 148 1=some (1,2):=by kernel_rfl
@[go_sem] theorem pl148_2:plcT L.env 148 2=some (3,1):=by kernel_rfl
@[go_sem] theorem ze148:L.env.zero 148=some [.int .u8 0,.int .i64 0,.int .i64 0,.int .u8 0,.int .i64 0]:=by kernel_rfl
@[go_sem] theorem is151:isT L.env 151=true:=by kernel_rfl
@[go_sem] theorem us151:usetT L.env 151=false:=by kernel_rfl
@[go_sem] theorem bl153:bldT L.env 153=true:=by kernel_rfl
@[go_sem] theorem fl153_0:fldT L.env 153 0=some (0,39):=by kernel_rfl
@[go_sem] theorem pl153_0:plcT L.env 153 0=some (0,4):=by kernel_rfl
@[go_sem] theorem pl153_1:plcT L.env 153 1=some (4,7):=by kernel_rfl
@[go_sem] theorem fl153_2:fldT L.env 153 2=some (11,87):=by kernel_rfl
@[go_sem] theorem pl153_2:plcT L.env 153 2=some (11,7):=by kernel_rfl
@[go_sem] theorem fl153_3:fldT L.env 153 3=some (18,151):=by kernel_rfl
@[go_sem] theorem fl153_4:fldT L.env 153 4=some (19,76):=by kernel_rfl
@[go_sem] theorem ze153:L.env.zero 153=some [.nilslice,.nilslice,.nilslice,.nilslice,.int .i64 0,.int .i64 0,.bool false,.int .i64 0,.int .u64 0,.nilslice,.int .i64 0,.nilslice,.nilslice,.nilslice,.nilslice,.nilslice,.nilslice,.nilslice,.nilmap,.nilslice]:=by kernel_rfl
@[go_sem] theorem is160:isT L.env 160=true:=by kernel_rfl
@[go_sem] theorem sz160:L.env.sz 160=2:=by kernel_rfl
@[go_sem] theorem bl160:bldT L.env 160=true:=by kernel_rfl
@[go_sem] theorem pl160_0:plcT L.env 160 0=some (0,1):=by kernel_rfl
@[go_sem] theorem pl160_1:plcT L.env 160 1=some (1,1):=by kernel_rfl
@[go_sem] theorem ze160:L.env.zero 160=some [.int .u8 0,.int .i64 0]:=by kernel_rfl
@[go_sem] theorem is168:isT L.env 168=true:=by kernel_rfl
@[go_sem] theorem sz168:L.env.sz 168=8:=by kernel_rfl
@[go_sem] theorem ar168:arrT L.env 168=some (8,9):=by kernel_rfl
@[go_sem] theorem bl168:bldT L.env 168=true:=by kernel_rfl
@[go_sem] theorem ze168:L.env.zero 168=some [.str [],.str [],.str [],.str [],.str [],.str [],.str [],.str []]:=by kernel_rfl
@[go_sem] theorem un172:L.env.und 172=some (.map 3 4):=by kernel_rfl
@[go_sem] theorem us172:usetT L.env 172=true:=by kernel_rfl
@[go_sem] theorem st201:slT L.env 201=some 101:=by kernel_rfl
@[go_sem] theorem sz219:L.env.sz 219=1:=by kernel_rfl
@[go_sem] theorem ag219:aggT L.env 219=some false:=by kernel_rfl
@[go_sem] theorem st235:slT L.env 235=some 139:=by kernel_rfl
@[go_sem] theorem mk235{k:Nat}(h:(k≤1000000000)=True):mkOk L.env 139 (k:Int) (k:Int)=true:=mkOk_nat (of_eq_true h) (by rw[by139];decide)
@[go_sem] theorem is262:isT L.env 262=true:=by kernel_rfl
@[go_sem] theorem sz262:L.env.sz 262=1:=by kernel_rfl
@[go_sem] theorem ag262:aggT L.env 262=some false:=by kernel_rfl
@[go_sem] theorem bl264:bldT L.env 264=true:=by kernel_rfl
@[go_sem] theorem fl264_0:fldT L.env 264 0=some (0,262):=by kernel_rfl
@[go_sem] theorem pl264_0:plcT L.env 264 0=some (0,1):=by kernel_rfl
@[go_sem] theorem fl264_1:fldT L.env 264 1=some (1,50):=by kernel_rfl
@[go_sem] theorem pl264_3:plcT L.env 264 3=some (3,1):=by kernel_rfl
@[go_sem] theorem ze264:L.env.zero 264=some [.nilptr,.nilslice,.nilslice,.nilmap]:=by kernel_rfl
@[go_sem] theorem is300:isT L.env 300=true:=by kernel_rfl
@[go_sem] theorem sz300:L.env.sz 300=2:=by kernel_rfl
@[go_sem] theorem ar300:arrT L.env 300=some (2,3):=by kernel_rfl
@[go_sem] theorem us331:usetT L.env 331=false:=by kernel_rfl
@[go_sem] theorem st394:slT L.env 394=some 397:=by kernel_rfl
@[go_sem] theorem is397:isT L.env 397=true:=by kernel_rfl
@[go_sem] theorem sz397:L.env.sz 397=2:=by kernel_rfl
@[go_sem] theorem ag397:aggT L.env 397=some true:=by kernel_rfl
@[go_sem] theorem bl397:bldT L.env 397=true:=by kernel_rfl
@[go_sem] theorem fl397_0:fldT L.env 397 0=some (0,58):=by kernel_rfl
@[go_sem] theorem pl397_0:plcT L.env 397 0=some (0,1):=by kernel_rfl
@[go_sem] theorem fl397_1:fldT L.env 397 1=some (1,58):=by kernel_rfl
@[go_sem] theorem pl397_1:plcT L.env 397 1=some (1,1):=by kernel_rfl
@[go_sem] theorem ze397:L.env.zero 397=some [.int .u8 0,.int .u8 0]:=by kernel_rfl
@[go_sem] theorem bl399:bldT L.env 399=true:=by kernel_rfl
@[go_sem] theorem fl399_0:fldT L.env 399 0=some (0,37):=by kernel_rfl
@[go_sem] theorem fl399_1:fldT L.env 399 1=some (1,37):=by kernel_rfl
@[go_sem] theorem ze399:L.env.zero 399=some [.nilslice,.nilslice]:=by kernel_rfl
@[go_sem] theorem ar438:arrT L.env 438=some (16,300):=by kernel_rfl
@[go_sem] theorem is498:isT L.env 498=true:=by kernel_rfl
@[go_sem] theorem sz498:L.env.sz 498=2:=by kernel_rfl
@[go_sem] theorem ag498:aggT L.env 498=some true:=by kernel_rfl
@[go_sem] theorem bl498:bldT L.env 498=true:=by kernel_rfl
@[go_sem] theorem fl498_0:fldT L.env 498 0=some (0,40):=by kernel_rfl
@[go_sem] theorem pl498_0:plcT L.env 498 0=some (0,1):=by kernel_rfl
@[go_sem] theorem fl498_1:fldT L.env 498 1=some (1,40):=by kernel_rfl
@[go_sem] theorem pl498_1:plcT L.env 498 1=some (1,1):=by kernel_rfl
@[go_sem] theorem ze498:L.env.zero 498=some [.int .u64 0,.int .u64 0]:=by kernel_rfl
end Go.FInst
/- The facts that calls may use: the closed run of the chapter's examples; names of nodes. -/
namespace Go.FInst
open Go.Proofs Go.Ax
def Mf:List Fact:=[⟨21,[],.bool true⟩,⟨219,[.str [110,48,48]],.bool true⟩,⟨219,[.str [110,48,49]],.bool true⟩,⟨219,[.str [110,48,50]],.bool true⟩,⟨219,[.str [110,48,51]],.bool true⟩,⟨219,[.str [110,48,52]],.bool true⟩,⟨219,[.str [110,48,53]],.bool true⟩,⟨219,[.str [110,48,54]],.bool true⟩,⟨219,[.str [110,48,55]],.bool true⟩,⟨219,[.str [110,48,56]],.bool true⟩,⟨219,[.str [110,48,57]],.bool true⟩,⟨219,[.str [110,49,48]],.bool true⟩,⟨219,[.str [110,49,49]],.bool true⟩,⟨219,[.str [110,49,50]],.bool true⟩,⟨219,[.str [110,49,51]],.bool true⟩,⟨219,[.str [110,49,52]],.bool true⟩,⟨219,[.str [110,49,53]],.bool true⟩]
theorem no(g:Nat)(h:(Mf.all λy=>!Nat.beq y.g g)=true):∀y∈Mf,y.g≠g:=by intro y hy e;have:=List.all_eq_true.1 h y hy;rw[e]at this;simp at this
theorem factsT:∀y∈Mf,y.v = .bool true:=by intro y hy;simp only[Mf,List.mem_cons,List.not_mem_nil,or_false]at hy;rcases hy with rfl|rfl|rfl|rfl|rfl|rfl|rfl|rfl|rfl|rfl|rfl|rfl|rfl|rfl|rfl|rfl|rfl<;>rfl
theorem lives_sem:sem L.env Mf 21 [] []=some (.bool true,[]):=sem_factT factsT (x:=⟨21,[],.bool true⟩) (by simp[Mf])
theorem isname_0:sem L.env Mf 219 [.str [110,48,48]] []=some (.bool true,[]):=sem_factT factsT (x:=⟨219,[.str [110,48,48]],.bool true⟩) (by simp[Mf])
theorem isname_1:sem L.env Mf 219 [.str [110,48,49]] []=some (.bool true,[]):=sem_factT factsT (x:=⟨219,[.str [110,48,49]],.bool true⟩) (by simp[Mf])
theorem isname_2:sem L.env Mf 219 [.str [110,48,50]] []=some (.bool true,[]):=sem_factT factsT (x:=⟨219,[.str [110,48,50]],.bool true⟩) (by simp[Mf])
theorem isname_3:sem L.env Mf 219 [.str [110,48,51]] []=some (.bool true,[]):=sem_factT factsT (x:=⟨219,[.str [110,48,51]],.bool true⟩) (by simp[Mf])
theorem isname_4:sem L.env Mf 219 [.str [110,48,52]] []=some (.bool true,[]):=sem_factT factsT (x:=⟨219,[.str [110,48,52]],.bool true⟩) (by simp[Mf])
theorem isname_5:sem L.env Mf 219 [.str [110,48,53]] []=some (.bool true,[]):=sem_factT factsT (x:=⟨219,[.str [110,48,53]],.bool true⟩) (by simp[Mf])
theorem isname_6:sem L.env Mf 219 [.str [110,48,54]] []=some (.bool true,[]):=sem_factT factsT (x:=⟨219,[.str [110,48,54]],.bool true⟩) (by simp[Mf])
theorem isname_7:sem L.env Mf 219 [.str [110,48,55]] []=some (.bool true,[]):=sem_factT factsT (x:=⟨219,[.str [110,48,55]],.bool true⟩) (by simp[Mf])
theorem isname_8:sem L.env Mf 219 [.str [110,48,56]] []=some (.bool true,[]):=sem_factT factsT (x:=⟨219,[.str [110,48,56]],.bool true⟩) (by simp[Mf])
theorem isname_9:sem L.env Mf 219 [.str [110,48,57]] []=some (.bool true,[]):=sem_factT factsT (x:=⟨219,[.str [110,48,57]],.bool true⟩) (by simp[Mf])
theorem isname_10:sem L.env Mf 219 [.str [110,49,48]] []=some (.bool true,[]):=sem_factT factsT (x:=⟨219,[.str [110,49,48]],.bool true⟩) (by simp[Mf])
theorem isname_11:sem L.env Mf 219 [.str [110,49,49]] []=some (.bool true,[]):=sem_factT factsT (x:=⟨219,[.str [110,49,49]],.bool true⟩) (by simp[Mf])
theorem isname_12:sem L.env Mf 219 [.str [110,49,50]] []=some (.bool true,[]):=sem_factT factsT (x:=⟨219,[.str [110,49,50]],.bool true⟩) (by simp[Mf])
theorem isname_13:sem L.env Mf 219 [.str [110,49,51]] []=some (.bool true,[]):=sem_factT factsT (x:=⟨219,[.str [110,49,51]],.bool true⟩) (by simp[Mf])
theorem isname_14:sem L.env Mf 219 [.str [110,49,52]] []=some (.bool true,[]):=sem_factT factsT (x:=⟨219,[.str [110,49,52]],.bool true⟩) (by simp[Mf])
theorem isname_15:sem L.env Mf 219 [.str [110,49,53]] []=some (.bool true,[]):=sem_factT factsT (x:=⟨219,[.str [110,49,53]],.bool true⟩) (by simp[Mf])
end Go.FInst
